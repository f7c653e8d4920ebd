import Derived.Test.YtcbiehinhmkjmaaDoorND
import Derived.Deep.RegionLaw
import Derived.Shelf.RegionOpenPlain
import Derived.Lib.SliceRun
import Derived.Laws.IdiomCopy
namespace Go.Proofs.YtcbiehinhmkjmaaDoor.NB
open Go.RowKit Go.Proofs.YtcbiehinhmkjmaaDoorW.PrintWords Go.Proofs.YtcbiehinhmkjmaaDoorW.PrintLast Go.Proofs.YtcbiehinhmkjmaaDoorW.PrintMore
open Go.Proofs.YtcbiehinhmkjmaaDoor.PB
set_option linter.unusedVariables false
set_option linter.unusedSimpArgs false

section
variable {α : Type} {R : α → List Value → Prop} {sz : Nat} {a b l : List α} {ca cb inner : List Value}
theorem reps_app (ha : Reps R sz a ca) (hb : Reps R sz b cb) : Reps R sz (a ++ b) (ca ++ cb) := by
  refine ⟨by rw [List.length_append, ha.1, hb.1, List.length_append, Nat.add_mul], fun j p hj => ?_⟩
  rcases Nat.lt_or_ge j a.length with h | h
  · rw [List.getElem?_append_left h] at hj
    have h1 : j * sz + sz ≤ ca.length := by rw [ha.1, ← Nat.succ_mul]; exact Nat.mul_le_mul_right _ h
    rw [List.drop_append_of_le_length (by omega), List.take_append_of_le_length (by rw [List.length_drop]; omega)]
    exact ha.2 j p hj
  · rw [List.getElem?_append_right h] at hj
    have e : (ca ++ cb).drop (j * sz) = cb.drop ((j - a.length) * sz) := by
      rw [List.drop_append, List.drop_eq_nil_of_le (by rw [ha.1]; exact Nat.mul_le_mul_right _ h), List.nil_append, ha.1, Nat.sub_mul]
    rw [e]
    exact hb.2 _ p hj
theorem reps_drop (h : Reps R sz l inner) (k : Nat) : Reps R sz (l.drop k) (inner.drop (k * sz)) := by
  refine ⟨by rw [List.length_drop, h.1, List.length_drop, Nat.sub_mul], fun j p hj => ?_⟩
  rw [List.getElem?_drop] at hj
  rw [List.drop_drop, ← Nat.add_mul]
  exact h.2 _ p hj
theorem reps_take (h : Reps R sz l inner) (k : Nat) : Reps R sz (l.take k) (inner.take (k * sz)) := by
  refine ⟨?_, fun j p hj => ?_⟩
  · rw [List.length_take, h.1, List.length_take]
    rcases Nat.le_total k l.length with q | q
    · rw [Nat.min_eq_left q, Nat.min_eq_left (Nat.mul_le_mul_right _ q)]
    · rw [Nat.min_eq_right q, Nat.min_eq_right (Nat.mul_le_mul_right _ q)]
  · rw [List.getElem?_take] at hj
    split at hj
    · rename_i hjk
      have h1 : j * sz + sz ≤ k * sz := by rw [← Nat.succ_mul]; exact Nat.mul_le_mul_right _ hjk
      rw [List.drop_take, List.take_take, Nat.min_eq_left (by omega)]
      exact h.2 j p hj
    · cases hj
end
theorem mem_seg {l : List S36} {inner : List Value} {w : World} {B : Nat} {ok : Nat → Prop} (h : Reps (k36.M w B ok) 12 l inner) : ∀ u ∈ inner, u.oneCell' = true := by
  intro u hu
  obtain ⟨q, hq, rfl⟩ := List.mem_iff_getElem.1 hu
  have hl := h.1
  have hj : q / 12 < l.length := by omega
  have h2 := h.2 (q / 12) l[q / 12] (List.getElem?_eq_getElem hj)
  have e := k36_openM h2
  have hm : inner[q] ∈ (inner.drop (q / 12 * 12)).take 12 := by
    rw [List.mem_iff_getElem]
    refine ⟨q % 12, by rw [List.length_take, List.length_drop]; omega, ?_⟩
    rw [List.getElem_take, List.getElem_drop]
    congr 1
    omega
  rw [e] at hm
  simp only [List.mem_cons, List.not_mem_nil, or_false] at hm
  rcases hm with h | h | h | h | h | h | h | h | h | h | h | h <;> rw [h] <;> rfl
theorem run_clear_one (w : World) (ty : TypeId) (b o c : Nat) (hc : ∀ j, j < 12 → (w.cell? ⟨b, o + j, none⟩).isSome = true) (hf : ∀ j, j < 12 → w.frozen? ⟨b, o + j, none⟩ = false) :
    (Builtin.clear_ #[23] ty #[.slice (some ⟨b, o, none⟩) 1 c]).run Tryd.prog w = .ok (.tuple #[]) (w.setCells b o (#[.int .u64 0, .int .i64 0, .int .u32 0, .int .u32 0, .int .u64 0, .int .u64 0, .int .u64 0, .int .u64 0, .int .u64 0, .int .u64 0, .int .u64 0, .bool false]).toList) := by
  have hv : ∀ w, (zeroValue 36).run Tryd.prog w = .ok (.agg #[.int .u64 0, .int .i64 0, .int .u32 0, .int .u32 0, .int .u64 0, .int .u64 0, .int .u64 0, .int .u64 0, .int .u64 0, .int .u64 0, .int .u64 0, .bool false]) w := fun w => by kernel_rfl
  have hzc : (Builtin.zeroCells (Value.agg #[.int .u64 0, .int .i64 0, .int .u32 0, .int .u32 0, .int .u64 0, .int .u64 0, .int .u64 0, .int .u64 0, .int .u64 0, .int .u64 0, .int .u64 0, .bool false]).cells 1).toList = (#[.int .u64 0, .int .i64 0, .int .u32 0, .int .u32 0, .int .u64 0, .int .u64 0, .int .u64 0, .int .u64 0, .int .u64 0, .int .u64 0, .int .u64 0, .bool false]).toList := by kernel_rfl
  have hst := run_storeCells_cells (P := Tryd.prog) b o (#[.int .u64 0, .int .i64 0, .int .u32 0, .int .u32 0, .int .u64 0, .int .u64 0, .int .u64 0, .int .u64 0, .int .u64 0, .int .u64 0, .int .u64 0, .bool false]).toList 0 w (by simpa using hc) (by simpa using hf) (by decide)
  simp only [Nat.add_zero] at hst
  have hu := run_underlying (P := Tryd.prog) Tryd.underlying23
  simp [Builtin.clear_, hu, hv, hzc, hst]
/-- Nothing but block g has turned. -/
structure But (g : Nat) (w w' : World) : Prop where
  os : w'.os = w.os
  tape : w'.tape = w.tape
  output : w'.output = w.output
  size : w'.heap.size = w.heap.size
  block : ∀ q, q ≠ g → w'.heap[q]? = w.heap[q]?
set_option maxRecDepth 100000 in
set_option maxHeartbeats 4000000 in
theorem delete_w (g cap n k j : Nat) (l : List S36) (hkj : k < j) (hj : j = k + 1) (hjn : j ≤ n) (B : Nat) (ok : Nat → Prop) (w : World) (hr : Kd.R k36 36 w B ok (.slice (some ⟨g, 0, none⟩) n cap) l) :
    Calls Tryd.prog 36 #[.slice (some ⟨g, 0, none⟩) n cap, .int .i64 k, .int .i64 j] w fun e w' => e = .returned (.slice (some ⟨g, 0, none⟩) (n - 1) cap) ∧ Kd.R k36 36 w' B ok (.slice (some ⟨g, 0, none⟩) (n - 1) cap) (l.take k ++ l.drop j) ∧ But g w w' := by
  obtain ⟨hok, inner, ⟨hil, ho⟩, hrep⟩ := hr
  rcases ho with ⟨hv, _⟩ | ⟨g', cap', cur, hv, hb, hh, hnc, hcm, hcs, ht⟩
  · cases hv
  injection hv with ha hn hc
  injection ha with ha
  injection ha with hg
  subst hg hc
  rw [← hn] at hnc hil ht
  have hcs' : cur.size = cap * 12 := hcs
  have hil' : inner.length = n * 12 := hil
  have ht' : cur.toList.take (n * 12) = inner := ht
  have hcl : cur.toList.length = cap * 12 := by simpa using hcs'
  have hm : cap ≤ 9223372036854775807 := Nat.le_trans hcm (by decide)
  obtain ⟨news, hnews⟩ : ∃ news, news = inner.drop (j * 12) := ⟨_, rfl⟩
  have hlen : news.length = (n - j) * 12 := by rw [hnews, List.length_drop, hil', Nat.sub_mul]
  have hat : ∀ t, t < news.length → news[t]? = cur[j * 12 + t]? := by
    intro t htl
    rw [hnews, List.getElem?_drop, ← ht', List.getElem?_take, if_pos (by omega), Array.getElem?_toList]
  obtain ⟨A, hA, hsrc⟩ : ∃ A : Addr, (if cap = j then (some ⟨g, 0, none⟩ : Option Addr) else some ⟨g, j * 12, none⟩) = some A ∧ Hid (∀ t u, news[t]? = some u → w.drew.cell? (A.add t) = some u) := by
    by_cases h : cap = j
    · refine ⟨⟨g, 0, none⟩, by simp [h], fun t u hu => ?_⟩
      have h0 : news.length = 0 := by rw [hlen]; omega
      rw [List.length_eq_zero_iff.1 h0] at hu
      simp at hu
    · refine ⟨⟨g, j * 12, none⟩, by simp [h], fun t u hu => ?_⟩
      have htl := (List.getElem?_eq_some_iff.1 hu).1
      rw [hat t htl] at hu
      rw [Addr.add_lit]
      exact (blk_cell (blk_drew hh) _).trans hu
  have s1 : Hid (news.length = (n - j) * 12) := hlen
  have s2 : Hid (∀ u ∈ news, u.oneCell' = true) := fun u hu => mem_seg hrep u (by rw [hnews] at hu; exact List.mem_of_mem_drop hu)
  have s3 : Hid (∀ t, t < news.length → (w.drew.cell? ⟨g, 0 + k * 12 + t, none⟩).isSome = true ∧ w.drew.frozen? ⟨g, 0 + k * 12 + t, none⟩ = false) := by
    intro t htl
    rw [hlen] at htl
    refine ⟨?_, blk_frozen (blk_drew hh) _⟩
    rw [blk_cell (blk_drew hh), Array.getElem?_eq_getElem (by omega)]
    rfl
  obtain ⟨W1, hW1⟩ : ∃ W1, W1 = w.drew.setCells g (0 + k * 12) news := ⟨_, rfl⟩
  obtain ⟨cur1, hh1, hs1, hl1⟩ := setCells_row news (0 + k * 12) w.drew cur (blk_drew hh) (by rw [hlen]; omega)
  rw [← hW1] at hh1
  obtain ⟨q, hq⟩ : ∃ q, q = k + (n - j) := ⟨_, rfl⟩
  have hcl2 : ∀ ty, (Builtin.clear_ #[23] ty #[.slice (some ⟨g, (k + (n - j)) * 12, none⟩) (n - (k + (n - j))) (cap - (k + (n - j)))]).run Tryd.prog W1 = .ok (.tuple #[]) (W1.setCells g ((k + (n - j)) * 12) (#[.int .u64 0, .int .i64 0, .int .u32 0, .int .u32 0, .int .u64 0, .int .u64 0, .int .u64 0, .int .u64 0, .int .u64 0, .int .u64 0, .int .u64 0, .bool false]).toList) := by
    intro ty
    rw [show n - (k + (n - j)) = 1 by omega]
    exact run_clear_one W1 ty g _ _ (fun t ht => by rw [blk_cell hh1, Array.getElem?_eq_getElem (by omega)]; rfl) (fun t ht => blk_frozen hh1 _)
  have hW : Hid (W1 = w.drew.setCells g (0 + k * 12) news) := hW1
  have hic : k ≤ cap := by omega
  have hjc : j ≤ cap := by omega
  have hqn : k + (n - j) ≤ n := by omega
  have hqc : k + (n - j) ≤ cap := by omega
  have hqx : ¬ (cap = k + (n - j)) := by omega
  have FIN := Lib.hid (And.intro hok (And.intro hb (And.intro hh (And.intro hcs' (And.intro ht' (And.intro hrep (And.intro hh1 (And.intro hs1 (And.intro hl1 (And.intro hnews (And.intro hlen (And.intro hcm hn))))))))))))
  have HJ := Lib.hid hj
  have HIL := Lib.hid hil'
  clear hW1 hok hb hh hcs hcs' ht ht' hrep hh1 hs1 hl1 hnews hlen hcm hn hil hil' hcl hat hj hq
  have mixed : Tryd.prog.follows Departure.mixedOrders = true := by kernel_rfl
  go_enter Tryd.func36, Tryd.ntmps36
  go_wp2_with fail
  obtain ⟨i0, hi0, hz0, hz1, hz2⟩ := info_parts info36
  go_region_law_o (refine step_append_room rfl (.tmp 22) (.tmp 25) 23 rfl 36 i0 12 Tryd.underlying23 hi0 hz1 g 0 k cap (by simp [Act.eval, Act.put]) A (n - j) (cap - j) news (by simp [Act.eval, Act.put]) s1.out hsrc.out s2.out (by omega) s3.out ?_; rw [← hW.out])
  go_wp2
  go_ret
  obtain ⟨hok, hb, hh, hcs', ht', hrep, hh1, hs1, hl1, hnews, hlen, hcm, hn⟩ := FIN.out
  have hj := HJ.out
  have hil' := HIL.out
  have hq : k + (n - j) = n - 1 := by omega
  have hll : (l.take k ++ l.drop j).length = n - 1 := by rw [List.length_append, List.length_take, List.length_drop, ← hn]; omega
  obtain ⟨cur2, hh2, hs2, hl2⟩ := setCells_row (#[.int .u64 0, .int .i64 0, .int .u32 0, .int .u32 0, .int .u64 0, .int .u64 0, .int .u64 0, .int .u64 0, .int .u64 0, .int .u64 0, .int .u64 0, .bool false]).toList ((k + (n - j)) * 12) W1 cur1 hh1 (by show (k + (n - j)) * 12 + 12 ≤ cur1.size; omega)
  obtain ⟨e1, e2, e3, e4⟩ := setCells_same g (#[.int .u64 0, .int .i64 0, .int .u32 0, .int .u32 0, .int .u64 0, .int .u64 0, .int .u64 0, .int .u64 0, .int .u64 0, .int .u64 0, .int .u64 0, .bool false]).toList ((k + (n - j)) * 12) W1
  obtain ⟨d1, d2, d3, d4⟩ := setCells_same g news (0 + k * 12) w.drew
  rw [← hW.out] at d1 d2 d3 d4
  have hinl : (cur.toList.take (k * 12)).length = k * 12 := by rw [List.length_take, Array.length_toList]; omega
  refine ⟨by rw [hq]; rfl, ⟨fun q h => hok q h, inner.take (k * 12) ++ inner.drop (j * 12), ⟨by rw [hll]; show _ = (n - 1) * 12; rw [List.length_append, List.length_take, List.length_drop, hil']; omega, Or.inr ⟨g, cap, cur2, by rw [hll], hb, hh2, by omega, hcm, by show cur2.size = cap * 12; omega, ?_⟩⟩, ?_⟩, ⟨e1.trans d1, e2.trans d2, e3.trans d3, e4.trans d4, fun q hq => (setCells_far _ _ q hq).trans (by rw [hW.out]; exact setCells_far _ _ q hq)⟩⟩
  · show cur2.toList.take ((l.take k ++ l.drop j).length * 12) = _
    have h0 : (inner.drop (j * 12)).length = (n - j) * 12 := by rw [List.length_drop, hil']; omega
    have h1 : cur1.toList.take ((k + (n - j)) * 12) = inner.take (k * 12) ++ inner.drop (j * 12) := by
      rw [hl1, hnews, Nat.zero_add]
      have h3 : inner.take (k * 12) = cur.toList.take (k * 12) := by rw [← ht', List.take_take, Nat.min_eq_left (by omega)]
      rw [h3, List.take_append_of_le_length (by rw [List.length_append, hinl, h0]; omega), List.take_of_length_le (by rw [List.length_append, hinl, h0]; omega)]
    have h2 : (cur1.toList.take ((k + (n - j)) * 12)).length = (n - 1) * 12 := by rw [List.length_take, Array.length_toList]; omega
    rw [hll, hl2, List.append_assoc, List.take_append_of_le_length (by omega), List.take_of_length_le (by omega), h1]
  · refine (reps_app (reps_take hrep k) (reps_drop hrep j)).imp_ (fun p c hp => ?_)
    rw [k36_openM hp]
    exact k36_mkM _ _ _ p
end Go.Proofs.YtcbiehinhmkjmaaDoor.NB
