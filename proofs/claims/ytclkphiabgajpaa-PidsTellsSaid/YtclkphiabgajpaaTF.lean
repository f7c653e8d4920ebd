import Derived.Test.YtclkphiabgajpaaTE
import Derived.Deep.RegionHeld3
import Derived.Lib.Hide
import Derived.Outline
namespace Go.Proofs.Ytclkphiabgajpaa.TA
open Go.RowKit Go.Proofs.YtclkphiabgajpaaW.PrintWords Go.Proofs.YtclkphiabgajpaaW.PrintLast Go.Proofs.YtclkphiabgajpaaW.PrintMore
set_option linter.unusedVariables false
set_option linter.unusedSimpArgs false

set_option maxHeartbeats 1000000 in
theorem free_no (last : Int) (A : Option Addr) (c : Nat) (used : List Int) (x : Int) (w : World) (hr0 : Kd.C (Kd.int .i64) w A used.length used) (hc0 : used.length ≤ c) (hl : used.length ≤ 30) (hg : good last used = false) :
    Calls Try.prog 12 #[.agg #[.int .i64 last, .slice A used.length c], .int .i64 x] w (OutF (0, [], 200) w) := by
  obtain ⟨m, hm⟩ : ∃ m, m = used.length := ⟨_, rfl⟩
  rw [← hm] at hr0 ⊢
  have HM := Lib.hid hm
  have HR := Lib.hid hr0
  have HC := Lib.hid hc0
  have HL := Lib.hid hl
  have HG := Lib.hid hg
  clear hm hr0 hc0 hl hg
  go_enter Try.func12, Try.ntmps12
  go_wp2_with fail
  refine (check_c HM.out HL.out HC.out (r := 200) (by rw [HG.out]; rfl) _ (Kd.C_alloc (Kd.C_alloc HR.out _) _)).mono ?_
  rintro e w1 ⟨rfl, hb⟩
  obtain ⟨hk_p, hk_r, hB⟩ := boxes2 hb
  have HB := Lib.hid hB
  have HR1 := Lib.hid (Kd.C_below HR.out HB.out)
  have hz1 := HB.out.size
  clear hb hB
  have hc_p := blk_cell hk_p.out; have hf_p := blk_frozen hk_p.out; have hl_p := blk_lt hk_p.out; have hc_r := blk_cell hk_r.out; have hf_r := blk_frozen hk_r.out; have hl_r := blk_lt hk_r.out
  go_wp2_with fail
  refine bodyPost_ret (results_list (rs := [.cell 4 24, .tmp 5]) rfl (by simp) (.cell (w.heap.size + 1) 24 #[.int .i64 0, .slice none 0 0] (0, 0) _ rfl ?h1_ Try.underlying24 rfl (by kernel_rfl) (.tmp .nil))) rfl ?_
  case h1_ => ((repeat (first | (with_reducible exact hk_r.out) | (with_reducible refine blk_drewN ?_ _) | (with_reducible refine blk_drew ?_) | (with_reducible refine (Below.heap_setCell _ _ _ _ (by dsimp only; omega)).trans ?_) | (with_reducible apply blk_put) | (with_reducible refine blk_alloc ?_ _))); all_goals rfl)
  refine ⟨.slice none 0 0, rfl, Kd.R_nil _ _ _ _ _, ?_⟩
  (repeat (with_reducible first | exact HB.out | refine Below.setCell ?_ (by dsimp only; omega) _ | refine below_drewN' ?_ _ | refine below_drew' ?_ | refine below_alloc ?_ _))
set_option maxHeartbeats 2000000 in
theorem free_not (last : Int) (A : Option Addr) (c : Nat) (used : List Int) (x : Int) (w : World) (hr0 : Kd.C (Kd.int .i64) w A used.length used) (hc0 : used.length ≤ c) (hl : used.length ≤ 30) (hg : good last used = true) (hx : x ∉ used) :
    Calls Try.prog 12 #[.agg #[.int .i64 last, .slice A used.length c], .int .i64 x] w (OutF (0, [], 4) w) := by
  obtain ⟨r, hrl, hbs, hb1, hb2⟩ := bs_f used x (good_parts hg).2.2
  rw [decide_eq_false hx] at hbs
  have HBS := Lib.hid hbs
  clear hbs hrl hb1 hb2 hx
  obtain ⟨m, hm⟩ : ∃ m, m = used.length := ⟨_, rfl⟩
  rw [← hm] at hr0 ⊢
  have HM := Lib.hid hm
  have HR := Lib.hid hr0
  have HC := Lib.hid hc0
  have HL := Lib.hid hl
  have HG := Lib.hid hg
  clear hm hr0 hc0 hl hg
  go_enter Try.func12, Try.ntmps12
  go_wp2_with fail
  refine (check_c HM.out HL.out HC.out (r := 0) (by rw [HG.out]; rfl) _ (Kd.C_alloc (Kd.C_alloc HR.out _) _)).mono ?_
  rintro e w1 ⟨rfl, hb⟩
  obtain ⟨hk_p, hk_r, hB⟩ := boxes2 hb
  have HB := Lib.hid hB
  have HR1 := Lib.hid (Kd.C_below HR.out HB.out)
  have hz1 := HB.out.size
  clear hb hB
  have hc_p := blk_cell hk_p.out; have hf_p := blk_frozen hk_p.out; have hl_p := blk_lt hk_p.out; have hc_r := blk_cell hk_r.out; have hf_r := blk_frozen hk_r.out; have hl_r := blk_lt hk_r.out
  go_wp2_with fail
  refine (search_c HM.out HC.out HBS.out _ HR1.out).mono ?_
  rintro e w4 ⟨rfl, hD⟩
  have hB4 := hD.below
  clear hD hc_p hf_p hl_p hc_r hf_r hl_r
  replace hk_r := Aside0.mk ((hB4.block _ (blk_lt hk_r.out)).trans hk_r.out)
  replace hk_p := Aside0.mk ((hB4.block _ (blk_lt hk_p.out)).trans hk_p.out)
  replace HB := Lib.hid (HB.out.trans (hB4.mono HB.out.size))
  clear hB4
  have hz4 := HB.out.size
  have hc_p := blk_cell hk_p.out; have hf_p := blk_frozen hk_p.out; have hl_p := blk_lt hk_p.out; have hc_r := blk_cell hk_r.out; have hf_r := blk_frozen hk_r.out; have hl_r := blk_lt hk_r.out
  go_wp2_with fail
  refine bodyPost_ret (results_list (rs := [.cell 4 24, .tmp 5]) rfl (by simp) (.cell (w.heap.size + 1) 24 #[.int .i64 0, .slice none 0 0] (0, 0) _ rfl ?h1_ Try.underlying24 rfl (by kernel_rfl) (.tmp .nil))) rfl ?_
  case h1_ => ((repeat (first | (with_reducible exact hk_r.out) | (with_reducible refine blk_drewN ?_ _) | (with_reducible refine blk_drew ?_) | (with_reducible refine (Below.heap_setCell _ _ _ _ (by dsimp only; omega)).trans ?_) | (with_reducible apply blk_put) | (with_reducible refine blk_alloc ?_ _))); all_goals rfl)
  refine ⟨.slice none 0 0, rfl, Kd.R_nil _ _ _ _ _, ?_⟩
  (repeat (with_reducible first | exact HB.out | refine Below.setCell ?_ (by dsimp only; omega) _ | refine below_drewN' ?_ _ | refine below_drew' ?_ | refine below_alloc ?_ _))
theorem delete_c (n0 : Nat) (ok : Nat → Prop) (v : Value) (xs : List Int) (i : Nat) (W : World) (hR : Kd.R (Kd.int .i64) 3 W n0 ok v xs) (hi : i < xs.length) (hlen : xs.length ≤ 1000000) (hn0 : n0 ≤ W.heap.size) :
    Calls Try.prog 27 #[v, .int .i64 i, .int .i64 ((i : Int) + 1)] W fun e W' => ∃ (A6 : Option Addr) (c6 m6 : Nat), e = .returned (.slice A6 m6 c6) ∧ Kd.R (Kd.int .i64) 3 W' n0 (fun _ => True) (.slice A6 m6 c6) (xs.take i ++ xs.drop (i + 1)) ∧ Below n0 W W' := by
  refine (delete_w n0 ok v xs i W hR hi hlen hn0).mono ?_
  rintro e W' ⟨v', rfl, hR', hB'⟩
  obtain ⟨A6, c6, rfl⟩ := Kd.R_slice hR'
  exact ⟨A6, c6, _, rfl, hR', hB'⟩
set_option maxHeartbeats 4000000 in
theorem free_ok (last : Int) (A : Option Addr) (c : Nat) (used : List Int) (x : Int) (w : World) (hr0 : Kd.C (Kd.int .i64) w A used.length used) (hc0 : used.length ≤ c) (hl : used.length ≤ 30) (hg : good last used = true) (hx : x ∈ used) :
    Calls Try.prog 12 #[.agg #[.int .i64 last, .slice A used.length c], .int .i64 x] w (OutF (last, without used x, 0) w) := by
  obtain ⟨r, hrl, hbs, hb1, hb2⟩ := bs_f used x (good_parts hg).2.2
  obtain ⟨hr1, hdel⟩ := del_eq used x r (good_parts hg).2.2 hx hrl hb1 hb2
  rw [decide_eq_true hx] at hbs
  have HD := Lib.hid hdel
  have HRL := Lib.hid hr1
  have HBS := Lib.hid hbs
  have hr0' : (0 : Int) ≤ (r : Int) := by omega
  have hr30 : (r : Int) ≤ 30 := by omega
  have hw1 : IntKind.i64.wrap ((r : Int) + 1) = (r : Int) + 1 := by rw [IntKind.wrap_i64]; omega
  have HW1 := Lib.hid hw1
  clear hbs hrl hb1 hb2 hx hdel hr1 hw1
  obtain ⟨m, hm⟩ : ∃ m, m = used.length := ⟨_, rfl⟩
  rw [← hm] at hr0 ⊢
  have HM := Lib.hid hm
  have HR := Lib.hid hr0
  have HC := Lib.hid hc0
  have HL := Lib.hid hl
  have HG := Lib.hid hg
  clear hm hr0 hc0 hl hg
  go_enter Try.func12, Try.ntmps12
  go_wp2_with fail
  refine (check_c HM.out HL.out HC.out (r := 0) (by rw [HG.out]; rfl) _ (Kd.C_alloc (Kd.C_alloc HR.out _) _)).mono ?_
  rintro e w1 ⟨rfl, hb⟩
  obtain ⟨hk_p, hk_r, hB⟩ := boxes2 hb
  have HB := Lib.hid hB
  have HR1 := Lib.hid (Kd.C_below HR.out HB.out)
  have hz1 := HB.out.size
  clear hb hB
  have hc_p := blk_cell hk_p.out; have hf_p := blk_frozen hk_p.out; have hl_p := blk_lt hk_p.out; have hc_r := blk_cell hk_r.out; have hf_r := blk_frozen hk_r.out; have hl_r := blk_lt hk_r.out
  go_wp2_with fail
  refine (search_c HM.out HC.out HBS.out _ HR1.out).mono ?_
  rintro e w4 ⟨rfl, hD⟩
  have hB4 := hD.below
  clear hD hc_p hf_p hl_p hc_r hf_r hl_r
  replace hk_r := Aside0.mk ((hB4.block _ (blk_lt hk_r.out)).trans hk_r.out)
  replace hk_p := Aside0.mk ((hB4.block _ (blk_lt hk_p.out)).trans hk_p.out)
  replace HB := Lib.hid (HB.out.trans (hB4.mono HB.out.size))
  replace HR1 := Lib.hid (Kd.C_below HR1.out hB4)
  clear hB4
  have hz4 := HB.out.size
  have hlr : w.heap.size + 1 < w4.heap.size := blk_lt hk_r.out
  go_wp2_with fail
  have hc_p0 : w4.cell? ⟨w.heap.size, 0, none⟩ = some (.int .i64 last) := blk_cell hk_p.out 0
  have hc_p1 : w4.cell? ⟨w.heap.size, 1, none⟩ = some (.slice A m c) := blk_cell hk_p.out 1
  have hw1 := HW1.out
  go_region_held3 (fun w' => w'.cell? ⟨w.heap.size, 0, none⟩ = some (.int .i64 last) ∧ w'.cell? ⟨w.heap.size, 1, none⟩ = some (.slice A m c))
    (first | (refine ⟨(hB6.cell (p := ⟨w.heap.size, 0, none⟩) (by show w.heap.size < w4.heap.size; omega)).trans ?_, (hB6.cell (p := ⟨w.heap.size, 1, none⟩) (by show w.heap.size < w4.heap.size; omega)).trans ?_⟩ <;> (go_split_ands; assumption)) | (refine ⟨(hB5.cell (p := ⟨w.heap.size, 0, none⟩) (by show w.heap.size < w4.heap.size; omega)).trans ?_, (hB5.cell (p := ⟨w.heap.size, 1, none⟩) (by show w.heap.size < w4.heap.size; omega)).trans ?_⟩ <;> (go_split_ands; assumption)) | go_keep)
    (first | (go_at_call 26; refine (clone_c HM.out HC.out HL.out _ (Kd.C_below HR1.out (below_drew (Below.refl _ _)))).mono ?_; rintro e w5 ⟨v5, rfl, hR5, hB5⟩) | (go_at_call 27; refine (delete_c w4.heap.size (fun _ => True) v5 used r w5 hR5 HRL.out (by have := HL.out; omega) hB5.size).mono ?_; rintro e w6 ⟨A6, c6, m6, rfl, hR6, hB6⟩; have hk6 := Aside0.mk (show w6.heap[w.heap.size + 1]? = some (.cells #[.int .i64 0, .slice none 0 0] 24 (0, 0)) from (hB6.block _ hlr).trans ((hB5.block _ hlr).trans hk_r.out)); have hq0 : w6.cell? ⟨w.heap.size + 1, 0, none⟩ = some (.int .i64 0) := blk_cell hk6.out 0; have hq1 : w6.cell? ⟨w.heap.size + 1, 1, none⟩ = some (.slice none 0 0) := blk_cell hk6.out 1; have hg0 := blk_frozen hk6.out 0; have hg1 := blk_frozen hk6.out 1; have hl6 := blk_lt hk6.out))
  rw [HD.out] at hR6
  have hB7 : Below w.heap.size w w6 := HB.out.trans ((below_drew (Below.refl _ _)).trans ((hB5.mono (show w.heap.size ≤ w4.heap.size from hz4)).trans (hB6.mono hz4)))
  clear hq0 hq1 hg0 hg1 hc_p0 hc_p1
  go_wp2_with fail
  refine bodyPost_ret (results_list (rs := [.cell 4 24, .tmp 5]) rfl (by simp) (.cell (w.heap.size + 1) 24 #[.int .i64 last, .slice A6 m6 c6] (0, 0) _ rfl ?h1_ Try.underlying24 rfl (by kernel_rfl) (.tmp .nil))) rfl ?_
  case h1_ => ((repeat (first | (with_reducible exact hk6.out) | (with_reducible refine blk_drewN ?_ _) | (with_reducible refine blk_drew ?_) | (with_reducible refine (Below.heap_setCell _ _ _ _ (by dsimp only; omega)).trans ?_) | (with_reducible apply blk_put) | (with_reducible refine blk_alloc ?_ _))); all_goals rfl)
  refine ⟨.slice A6 m6 c6, rfl, ?_, ?_⟩
  · refine Kd.R_lower (base := w4.heap.size) (Kd.R_mono (ok := fun k => k ≠ w.heap.size + 1) ?_ (fun _ _ => trivial)) (by omega)
    refine Kd.R_far (Kd.R_far (Kd.R_mono (ok' := fun k => k ≠ w.heap.size + 1) (Kd.R_bound hR6) (fun k hk => by have := hk.2.1; omega)) (fun k hk => hk) _) (fun k hk => hk) _
  · (repeat (with_reducible first | exact hB7 | refine Below.setCell ?_ (by dsimp only; omega) _ | refine below_drewN' ?_ _ | refine below_drew' ?_ | refine below_alloc ?_ _))
theorem free_c (last : Int) (A : Option Addr) (c : Nat) (used : List Int) (x : Int) (w : World) (hr0 : Kd.C (Kd.int .i64) w A used.length used) (hc0 : used.length ≤ c) (hl : used.length ≤ 30) : Calls Try.prog 12 #[.agg #[.int .i64 last, .slice A used.length c], .int .i64 x] w (OutF (freeV last used x) w) := by
  unfold freeV
  by_cases hg : good last used = true
  · rw [if_pos hg]
    by_cases hx : x ∈ used
    · rw [if_pos hx]; exact free_ok last A c used x w hr0 hc0 hl hg hx
    · rw [if_neg hx]; exact free_not last A c used x w hr0 hc0 hl hg hx
  · rw [if_neg hg]
    exact free_no last A c used x w hr0 hc0 hl (by simpa using hg)
end Go.Proofs.Ytclkphiabgajpaa.TA
