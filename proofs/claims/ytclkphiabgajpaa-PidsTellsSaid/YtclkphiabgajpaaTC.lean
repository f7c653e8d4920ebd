import Derived.Test.YtclkphiabgajpaaTB
import Derived.RangeFuncNested
import Derived.RangeFuncBound
import Derived.RangeFuncCalls
import Derived.RangeFuncLeaves
import Derived.RangeFuncBox
import Derived.Shelf.Abstract
import Derived.Shelf.RegionOpen
import Derived.WalkKit
import Derived.OwnWalkIn
import Derived.TacticsInMore
import Derived.LoopNIn
import Derived.LoopIn
import Derived.Outline
import Derived.Lib.Hide
namespace Go.Proofs.Ytclkphiabgajpaa.TA
open Go.RowKit Go.Shelf Go.Proofs.YtclkphiabgajpaaW.PrintWords Go.Proofs.YtclkphiabgajpaaW.PrintLast Go.Proofs.YtclkphiabgajpaaW.PrintMore
set_option linter.unusedVariables false
set_option linter.unusedSimpArgs false
attribute [local go_sem] Oper.semAt_some

theorem keepsOthers_below {W W' : World} (h : Below W.heap.size W W') : KeepsOthers W W' :=
  ⟨h.size, fun k o hk ho => (h.block k (Array.getElem?_eq_some_iff.1 hk).1).trans hk⟩
theorem around_w (last : Int) (sv : Value) (w : World) : Calls Try.prog 22 #[.agg #[.int .i64 last, sv]] w fun e w' => e = .returned (.func (.func 30) #[] #[.pointer (some ⟨w.heap.size, 0, none⟩)]) ∧ w' = w.alloc (.cells #[.int .i64 last, sv] 24) := by
  go_enter Try.func22, Try.ntmps22
  go_wp2
  go_ret
  exact ⟨rfl, rfl⟩
theorem id_w (last : Int) (k : Nat) (h0 : 0 ≤ last) (h1 : last ≤ 20) (hk : k < 20) : (last + (k : Int)) % 20 + 1 = idOf last k := rfl
set_option maxRecDepth 100000 in
set_option maxHeartbeats 2000000 in
/-- around's closure. -/
theorem around1_in (n : Nat) (hn : 1 ≤ n) (l Bp n₀ : Nat) (last : Int) (h00 : 0 ≤ last) (h20 : last ≤ 20) (hb : Bp < n₀) (J Jx : List Int → World → Prop)
    (hY : ∀ pre x W, J pre W → pre.length < 20 → YieldAt Fence.wide (n - 1) Try.prog l #[.int .i64 x] W fun e W' =>
      (e = .returned (.bool true) ∧ J (pre ++ [x]) W' ∧ Below n₀ W W') ∨ (e = .returned (.bool false) ∧ Jx (pre ++ [x]) W'))
    (W : World) (hc : W.cell? ⟨Bp, 0, none⟩ = some (.int .i64 last)) (h0 : J [] W) :
    CallsIn Fence.wide n Try.prog 30 #[.func (.yield l) #[] #[], .pointer (some ⟨Bp, 0, none⟩)] W fun e W' => (∃ v, e = .returned v) ∧
      ((∃ ys, ys = upto (idOf last) 20 ∧ J ys W') ∨ (∃ pre, (∃ k, k ≤ 20 ∧ pre = upto (idOf last) k) ∧ Jx pre W')) := by
  refine callsIn_of_wp Try.func30 rfl trivial ?_ rfl
  simp only [Try.ntmps30, List.size_toArray, List.length_cons, List.length_nil, Nat.reduceAdd, Nat.reduceSub, Array.replicate_succ, Array.replicate_zero, List.push_toArray, List.append_toArray, List.nil_append, List.cons_append]
  gi_wp2
  gi_loopw [4] (fun i wr => ∃ k : Nat, k ≤ 20 ∧ i = .int .i64 k ∧ J (upto (idOf last) k) wr ∧ Below n₀ W wr)
    (fun i _ => 20 - (intOf i).toNat)
  case atStart => exact ⟨0, Nat.zero_le _, rfl, h0, Below.refl _ _⟩
  case round =>
    obtain ⟨k, hk, rfl, hJs, hnx⟩ := hrel
    have hcx : wr.cell? ⟨Bp, 0, none⟩ = some (.int .i64 last) := (hnx.cell (p := ⟨Bp, 0, none⟩) hb).trans hc
    clear hc
    by_cases hlt : k < 20
    · obtain ⟨fn, tmps, assign, body, hy, hR⟩ := hY _ (idOf last k) wr hJs (by rw [upto_length]; exact hlt)
      unfold idOf at hy
      gi_wp2
      refine hR.mono ?_
      rintro e W3 (⟨rfl, hJ3, hk3⟩ | ⟨rfl, hJx3⟩)
      · gi_wp2
        go_roundw
        case rel => exact ⟨k + 1, by omega, by simp, by rw [upto_succ]; exact hJ3, hnx.trans hk3⟩
        case measure => simp [intOf]; omega
      · gi_wp2
        refine bodyPost_ret (results_none rfl _ _ _) rfl ?_
        exact ⟨⟨_, rfl⟩, .inr ⟨_, ⟨k + 1, by omega, (upto_succ _ _).symm⟩, hJx3⟩⟩
    · obtain rfl : k = 20 := by omega
      gi_wp2
      go_end0
      exact ⟨⟨_, rfl⟩, .inl ⟨_, rfl, hJs⟩⟩
theorem upto_prefix {α : Type} (f : Nat → α) {k n : Nat} (h : k ≤ n) : upto f k <+: upto f n := by
  unfold upto
  rw [show n = k + (n - k) by omega, List.range_add, List.map_append]
  exact List.prefix_append _ _
theorem around_stops (n : Nat) (hn : 1 ≤ n) (Bp n₀ : Nat) (last : Int) (h00 : 0 ≤ last) (h20 : last ≤ 20) (w : World) (hBp : Bp < n₀) (hn₀ : n₀ ≤ w.heap.size) (hc : w.cell? ⟨Bp, 0, none⟩ = some (.int .i64 last)) :
    SeqStopsK Fence.wide n Try.prog 30 #[.pointer (some ⟨Bp, 0, none⟩)] (fun x : Int => #[Value.int .i64 x]) (Below n₀) (fun ys => ys = upto (idOf last) 20) (fun pre => pre <+: upto (idOf last) 20) 20 w := fun l J Jx W hW _ _ hY h0 => by
  have hc' := (hW.cell (p := ⟨Bp, 0, none⟩) (Nat.lt_of_lt_of_le hBp hn₀)).trans hc
  refine (around1_in n hn l Bp n₀ last h00 h20 hBp J Jx hY W hc' h0).mono ?_
  rintro e W' ⟨he, ⟨ys, rfl, hj⟩ | ⟨pre, ⟨k, hk, rfl⟩, hj⟩⟩
  · exact ⟨he, .inl ⟨_, rfl, hj⟩⟩
  · exact ⟨he, .inr ⟨_, upto_prefix _ hk, hj⟩⟩
set_option maxHeartbeats 1000000 in
/-- Take's closure: is it free? -/
theorem free_w (Bp : Nat) (last x : Int) (A : Option Addr) (c : Nat) (used : List Int) (r : Bool) (hr : (!decide (x ∈ used)) = r) (hl : used.length ≤ 30) (w : World) (hb : w.heap[Bp]? = some (.cells #[.int .i64 last, .slice A used.length c] 24 (0, 0))) (hR : Kd.C (Kd.int .i64) w A used.length used) (hc : used.length ≤ c) :
    Calls Try.prog 23 #[.int .i64 x, .pointer (some ⟨Bp, 0, none⟩)] w fun e w' => e = .returned (.bool r) ∧ Below w.heap.size w w' := by
  have hh := has_f 60 last used x (by omega) (by omega)
  have HH := Aside0.mk hh
  have HR := Aside0.mk hR
  have HC := Aside0.mk hc
  have HE := Aside0.mk hr
  clear hh hR hc hr
  have HK := Aside0.mk (PB.pids_Has.calls 60 last A c used x _ w HR.out HC.out HH.out)
  clear HR HC HH
  obtain ⟨m, hm⟩ : ∃ m, m = used.length := ⟨_, rfl⟩
  rw [← hm] at hb HK
  clear hm hl
  have hc0 : w.cell? ⟨Bp, 0, none⟩ = some (.int .i64 last) := blk_cell hb 0
  have hc1 : w.cell? ⟨Bp, 1, none⟩ = some (.slice A m c) := blk_cell hb 1
  clear hb
  go_enter Try.func23, Try.ntmps23
  go_wp2_with (go_at_call 17; (with_reducible refine (HK.out).mono ?_); rintro e w1 ⟨rfl, hB⟩)
  go_ret
  exact ⟨by rw [← HE.out]; simp, hB⟩
/-- What first's own cells hold: nothing found yet. -/
def Fst (B : Nat) (Bp : Nat) (x : Int) (ok : Bool) (W : World) : Prop :=
  W.cell? ⟨B, 0, none⟩ = some (.func (.func 23) #[] #[.pointer (some ⟨Bp, 0, none⟩)]) ∧ W.cell? ⟨B + 1, 0, none⟩ = some (.int .i64 x) ∧ W.cell? ⟨B + 2, 0, none⟩ = some (.bool ok) ∧
  W.frozen? ⟨B + 1, 0, none⟩ = false ∧ W.frozen? ⟨B + 2, 0, none⟩ = false
theorem fst_own (B Bp : Nat) (x : Int) (ok : Bool) {β : Type} : Own (fun (_ : β) W => Fst B Bp x ok W) :=
  fun s A B row hs hg hr => ⟨cell_kept hs.1 hg hr, cell_kept hs.2.1 hg hr, cell_kept hs.2.2.1 hg hr, (frozen_kept hs.2.1 hg hr).trans hs.2.2.2.1, (frozen_kept hs.2.2.1 hg hr).trans hs.2.2.2.2⟩
end Go.Proofs.Ytclkphiabgajpaa.TA
