import Derived.Test.YtcbiehinhmkjmaaDoorProg
import Derived.Maps.OwnOps
import Derived.Maps.OwnSet
import Derived.Maps.Views
import Derived.Maps.RangeWalk
import Derived.Below
import Derived.WalkKit
import Derived.WalkArith
namespace Go.Proofs.YtcbiehinhmkjmaaDoor.NB
open Go.RowKit Go.Maps
set_option linter.unusedVariables false
set_option linter.unusedSimpArgs false

abbrev wfU (k : Int) : Prop := (Lit.int .u64 k).wf = true
theorem key22 (k : Int) (h : wfU k) : keyOf Tryd.prog 22 (.int .u64 k) = some (.int .u64 k) := Maps.keyOf_int_mk Tryd.underlying22 h
theorem same22 (k x : Int) : (Lit.int .u64 k).sameKey (.int .u64 x) = (k == x) := by
  unfold Lit.sameKey
  by_cases h : k = x <;> simp [h]
theorem ne22 {k x : Int} (h : k ≠ x) : Lit.int .u64 k ≠ Lit.int .u64 x := by intro e; injection e with _ e; exact h e
theorem plain_boolU' {P : Program} {e : TypeId} (he : P.underlying e = some .bool) {v : Value} {d : DataW Unit} {ps : List MemPlace} (h : plainElem P e v = some (d, ps)) : ∃ b, v = .bool b ∧ d = .lit (.bool b) := by
  unfold plainElem at h
  rw [he] at h
  cases v <;> simp at h
  exact ⟨_, rfl, h.1.symm⟩
/-- Block b is a set of at most n numbers: those of S. -/
def SetU (w : World) (b n : Nat) (S : Int → Bool) : Prop :=
  ∃ D : DataW Unit, w.ownsMap Tryd.prog 22 (plainElem Tryd.prog 4) b n D ∧ Maps.IsMap D ∧ ∀ k : Int, wfU k → D.atKey (.int .u64 k) (.lit (.bool false)) = .lit (.bool (S k))
theorem SetU.made (w : World) : SetU (w.alloc (.map #[] 0)) w.heap.size 0 (fun _ => false) :=
  ⟨.map [], World.ownsMap_made w _ _ _, Maps.isMap_empty, fun _ _ => rfl⟩
theorem SetU.lt {w : World} {b n : Nat} {S : Int → Bool} (h : SetU w b n S) : b < w.heap.size := by
  obtain ⟨D, h, _⟩ := h
  exact h.lt
theorem SetU.keep {w w' : World} {b n : Nat} {S : Int → Bool} (h : SetU w b n S) (hb : w'.heap[b]? = w.heap[b]?) : SetU w' b n S := by
  obtain ⟨D, ⟨es, clock, e, F, hs, hD⟩, hm, hS⟩ := h
  exact ⟨D, ⟨es, clock, hb.trans e, F, hs, hD⟩, hm, hS⟩
theorem SetU.lookup {w : World} {b n : Nat} {S : Int → Bool} (h : SetU w b n S) {k : Int} (hk : wfU k) : (Instr.lookup 55 (.map (some b)) (.int .u64 k) false).run Tryd.prog w = .ok (.bool (S k)) w := by
  obtain ⟨D, ho, _, hS⟩ := h
  obtain ⟨v, ps, hrun, hv⟩ := ho.lookup (t := 55) (e := 4) (int_keyed Tryd.underlying22) Tryd.underlying55 (z := .bool false) (by kernel_rfl) (plainElem_bool Tryd.underlying4 false) (key22 k hk)
  rw [hS k hk] at hv
  obtain ⟨c, rfl, hc⟩ := plain_boolU' Tryd.underlying4 hv
  simp only [DataW.lit.injEq, Lit.bool.injEq] at hc
  rw [hrun, hc]
theorem SetU.put {w : World} {b n : Nat} {S : Int → Bool} (h : SetU w b n S) (hn : n < maxLen) {k : Int} (hk : wfU k) :
    ∃ w', (Instr.mapUpdate 55 (.map (some b)) (.int .u64 k) (.bool true)).run Tryd.prog w = .ok () w' ∧ SetU w' b (n + 1) (fun j => j == k || S j) ∧ w.grownBy w' (some b) ∧ w'.heap.size = w.heap.size := by
  obtain ⟨D, ho, hm, hS⟩ := h
  obtain ⟨w', hrun, h1, h2⟩ := ho.store (t := 55) (e := 4) (int_keyed Tryd.underlying22) Tryd.underlying55 hn (key22 k hk) (plainElem_bool Tryd.underlying4 true)
  have hsz : w'.heap.size = w.heap.size := by
    obtain ⟨es, clock, es', clock', hb, rfl⟩ := h2
    show (w.heap.setIfInBounds b _).size = w.heap.size
    exact Array.size_setIfInBounds
  refine ⟨w', hrun, ⟨_, h1, hm.put _ _, fun j hj => ?_⟩, h2.grown, hsz⟩
  by_cases e : j = k
  · subst e
    rw [Maps.atKey_put_same hm (show WideAt.IsKeyLit (Lit.int .u64 j) from trivial)]
    simp
  · rw [Maps.atKey_put_other (ne22 e), hS j hj]
    have : (j == k) = false := by simpa using e
    simp [this]
/-- Block b is a map of at most n numbers: h says which are there, f what stands there (0 where none). -/
def AskM (w : World) (b n : Nat) (h : Int → Bool) (f : Int → Int) : Prop :=
  ∃ D : DataW Unit, w.ownsMap Tryd.prog 22 (plainElem Tryd.prog 3) b n D ∧ Maps.IsMap D ∧ ∀ k : Int, wfU k → Maps.has D (.int .u64 k) = h k ∧ D.atKey (.int .u64 k) (.lit (.int .i64 0)) = .lit (.int .i64 (f k))
theorem AskM.made (w : World) : AskM (w.alloc (.map #[] 0)) w.heap.size 0 (fun _ => false) (fun _ => 0) :=
  ⟨.map [], World.ownsMap_made w _ _ _, Maps.isMap_empty, fun _ _ => ⟨rfl, rfl⟩⟩
theorem AskM.lt {w : World} {b n : Nat} {h : Int → Bool} {f : Int → Int} (H : AskM w b n h f) : b < w.heap.size := by
  obtain ⟨D, H, _⟩ := H
  exact H.lt
theorem AskM.keep {w w' : World} {b n : Nat} {h : Int → Bool} {f : Int → Int} (H : AskM w b n h f) (hb : w'.heap[b]? = w.heap[b]?) : AskM w' b n h f := by
  obtain ⟨D, ⟨es, clock, e, F, hs, hD⟩, hm, hS⟩ := H
  exact ⟨D, ⟨es, clock, hb.trans e, F, hs, hD⟩, hm, hS⟩
theorem AskM.lookup {w : World} {b n : Nat} {h : Int → Bool} {f : Int → Int} (H : AskM w b n h f) {k : Int} (hk : wfU k) : (Instr.lookup 54 (.map (some b)) (.int .u64 k) false).run Tryd.prog w = .ok (.int .i64 (f k)) w := by
  obtain ⟨D, ho, _, hS⟩ := H
  obtain ⟨c, hrun, hat, _⟩ := ho.lookup_int (t := 54) (e := 3) (q := .i64) (int_keyed Tryd.underlying22) Tryd.underlying54 Tryd.underlying3 (by kernel_rfl) (key22 k hk)
  rw [(hS k hk).2] at hat
  simp only [DataW.lit.injEq, Lit.int.injEq, true_and] at hat
  rw [hrun, hat]
theorem AskM.look_ok {w : World} {b n : Nat} {h : Int → Bool} {f : Int → Int} (H : AskM w b n h f) {k : Int} (hk : wfU k) : (Instr.lookup 54 (.map (some b)) (.int .u64 k) true).run Tryd.prog w = .ok (.tuple #[.int .i64 (f k), .bool (h k)]) w := by
  obtain ⟨D, ho, _, hS⟩ := H
  obtain ⟨v, ps, hrun, hv⟩ := ho.look_ok (t := 54) (e := 3) (int_keyed Tryd.underlying22) Tryd.underlying54 (z := .int .i64 0) (by kernel_rfl) (plainElem_int Tryd.underlying3 (by decide)) (key22 k hk)
  rw [(hS k hk).2] at hv
  rw [(hS k hk).1] at hrun
  obtain ⟨c, rfl, hc, _⟩ := plainElem_int_inv Tryd.underlying3 hv
  simp only [Prod.mk.injEq, DataW.lit.injEq, Lit.int.injEq, true_and] at hc
  rw [hrun, hc.1]
theorem AskM.put {w : World} {b n : Nat} {h : Int → Bool} {f : Int → Int} (H : AskM w b n h f) (hn : n < maxLen) {k t : Int} (hk : wfU k) (ht : (Lit.int .i64 t).wf = true) :
    ∃ w', (Instr.mapUpdate 54 (.map (some b)) (.int .u64 k) (.int .i64 t)).run Tryd.prog w = .ok () w' ∧ AskM w' b (n + 1) (fun j => j == k || h j) (fun j => if j = k then t else f j) ∧ w.grownBy w' (some b) ∧ w'.heap.size = w.heap.size := by
  obtain ⟨D, ho, hm, hS⟩ := H
  obtain ⟨w', hrun, h1, h2⟩ := ho.store (t := 54) (e := 3) (int_keyed Tryd.underlying22) Tryd.underlying54 hn (key22 k hk) (plainElem_int Tryd.underlying3 ht)
  have hsz : w'.heap.size = w.heap.size := by
    obtain ⟨es, clock, es', clock', hb, rfl⟩ := h2
    show (w.heap.setIfInBounds b _).size = w.heap.size
    exact Array.size_setIfInBounds
  refine ⟨w', hrun, ⟨_, h1, hm.put _ _, fun j hj => ?_⟩, h2.grown, hsz⟩
  by_cases e : j = k
  · subst e
    rw [Maps.atKey_put_same hm (show WideAt.IsKeyLit (Lit.int .u64 j) from trivial), Maps.has_put_same hm (show WideAt.IsKeyLit (Lit.int .u64 j) from trivial)]
    simp
  · rw [Maps.atKey_put_other (ne22 e), Maps.has_put_other (ne22 e), (hS j hj).1, (hS j hj).2]
    have : (j == k) = false := by simpa using e
    simp [this, e]
/-- A range over it under way: L says which are still to come, cnt how many. -/
def RngM (w : World) (b r n : Nat) (h : Int → Bool) (f : Int → Int) (L : Int → Bool) (cnt : Nat) : Prop :=
  ∃ (D : DataW Unit) (left : Lit → Bool), w.ranges Tryd.prog 22 (plainElem Tryd.prog 3) b r n D left cnt ∧ Maps.IsMap D ∧ (∀ k : Int, wfU k → Maps.has D (.int .u64 k) = h k ∧ D.atKey (.int .u64 k) (.lit (.int .i64 0)) = .lit (.int .i64 (f k))) ∧ ∀ k : Int, wfU k → left (.int .u64 k) = L k
theorem RngM.ask {w : World} {b r n cnt : Nat} {h L : Int → Bool} {f : Int → Int} (H : RngM w b r n h f L cnt) : AskM w b n h f := by
  obtain ⟨D, left, hr, hm, hS, _⟩ := H
  exact ⟨D, hr.owns, hm, hS⟩
theorem RngM.left {w : World} {b r n cnt : Nat} {h L : Int → Bool} {f : Int → Int} (H : RngM w b r n h f L cnt) : w.rangeLeft b r = cnt := by
  obtain ⟨D, left, hr, _⟩ := H
  exact hr.left_eq
theorem RngM.lt {w : World} {b r n cnt : Nat} {h L : Int → Bool} {f : Int → Int} (H : RngM w b r n h f L cnt) : r < w.heap.size := by
  obtain ⟨D, left, hr, _⟩ := H
  exact hr.lt
theorem RngM.kept {w w' : World} {row : Option Nat} {b r n cnt : Nat} {h L : Int → Bool} {f : Int → Int} (H : RngM w b r n h f L cnt) (hg : w.grownBy w' row) (hb : some b ≠ row) (hr : some r ≠ row) : RngM w' b r n h f L cnt := by
  obtain ⟨D, left, h1, h2⟩ := H
  exact ⟨D, left, h1.kept hg hb hr, h2⟩
section
variable {w : World} {ops : Array Oper} {rest : List Oper} {o : Oper} {a : Act} {Q : Exit → Act → World → Prop}
theorem wpList_put_setU (hg : o.guard = none) (m x v : Operand) (hop : o.op = Op.mapUpdate 55 m x v) (b n : Nat) (S : Int → Bool) (hm : a.eval m = .map (some b)) (hs : SetU w b n S) (hn : n < maxLen) (k : Int) (hk : wfU k)
    (hx : a.eval x = .int .u64 k) (hv : a.eval v = .bool true) (hK : ∀ w', SetU w' b (n + 1) (fun j => j == k || S j) → w.grownBy w' (some b) → w'.heap.size = w.heap.size → wpList Tryd.prog ops Q rest (a.put o.dst undef) w') :
    wpList Tryd.prog ops Q (o :: rest) a w := by
  refine wpList_plain hg fun K' hK' => ?_
  obtain ⟨w', hrun, r1, r2, r3⟩ := hs.put hn hk
  unfold Oper.wp
  simp [execOp, hop, hm, hx, hv, hrun, Result.andThen]
  exact hK' _ _ (hK w' r1 r2 r3)
theorem wpList_put_ask (hg : o.guard = none) (m x v : Operand) (hop : o.op = Op.mapUpdate 54 m x v) (b n : Nat) (h : Int → Bool) (f : Int → Int) (hm : a.eval m = .map (some b)) (hs : AskM w b n h f) (hn : n < maxLen) (k t : Int) (hk : wfU k) (ht : (Lit.int .i64 t).wf = true)
    (hx : a.eval x = .int .u64 k) (hv : a.eval v = .int .i64 t) (hK : ∀ w', AskM w' b (n + 1) (fun j => j == k || h j) (fun j => if j = k then t else f j) → w.grownBy w' (some b) → w'.heap.size = w.heap.size → wpList Tryd.prog ops Q rest (a.put o.dst undef) w') :
    wpList Tryd.prog ops Q (o :: rest) a w := by
  refine wpList_plain hg fun K' hK' => ?_
  obtain ⟨w', hrun, r1, r2, r3⟩ := hs.put hn hk ht
  unfold Oper.wp
  simp [execOp, hop, hm, hx, hv, hrun, Result.andThen]
  exact hK' _ _ (hK w' r1 r2 r3)
theorem wpList_range_ask (hg : o.guard = none) (m : Operand) (hop : o.op = Op.range 54 m) (b n : Nat) (h : Int → Bool) (f : Int → Int) (hm : a.eval m = .map (some b)) (H : AskM w b n h f)
    (hK : ∀ w' cnt, RngM w' b w.heap.size n h f h cnt → cnt ≤ n → w.grownBy w' none → w'.heap.size = w.heap.size + 1 → wpList Tryd.prog ops Q rest (a.put o.dst (.pointer (some ⟨w.heap.size, 0, none⟩))) w') :
    wpList Tryd.prog ops Q (o :: rest) a w := by
  obtain ⟨D, ho, hi, hS⟩ := H
  refine wpList_range_own w hg m 54 hop 22 3 (int_keyed Tryd.underlying22) Tryd.underlying54 (plainElem Tryd.prog 3) b n D hm ho ?_
  intro w' h1 h2 h3
  exact hK w' _ ⟨D, _, h1, hi, hS, fun k hk => (hS k hk).1⟩ ho.size_le h2 h3
theorem wpList_next_ask (hg : o.guard = none) (it : Operand) (hop : o.op = Op.next it false) (b r n : Nat) (h L : Int → Bool) (f : Int → Int) (cnt : Nat) (hit : a.eval it = .pointer (some ⟨r, 0, none⟩)) (H : RngM w b r n h f L cnt)
    (hDone : cnt = 0 → (∀ k, wfU k → L k = false) → wpList Tryd.prog ops Q rest (a.put o.dst (.tuple #[.bool false])) w)
    (hMore : ∀ (x t : Int) (w' : World) (cnt' : Nat), t = f x → wfU x → L x = true → RngM w' b r n h f (fun k => L k && !(k == x)) cnt' → cnt' < cnt → w.grownBy w' (some r) → w'.heap.size = w.heap.size →
      (Instr.entry (.pointer (some ⟨r, 0, none⟩))).run Tryd.prog w' = .ok (.tuple #[.int .u64 x, .int .i64 t]) w' → wpList Tryd.prog ops Q rest (a.put o.dst (.tuple #[.bool true, .int .u64 x, .int .i64 t])) w') :
    wpList Tryd.prog ops Q (o :: rest) a w := by
  obtain ⟨D, left, hr, hi, hS, hL⟩ := H
  refine wpList_next_ranges_ii w hg it hop 22 3 .u64 .i64 (int_keyed Tryd.underlying22) Tryd.underlying22 Tryd.underlying3 b r n D left cnt hit hr ?_ ?_
  · intro h0 h1
    exact hDone h0 (fun k hk => (hL k hk).symm.trans (h1 _))
  · intro x c w' cnt' hwx hwc hlx hat hrg hlt hgr hsz hen
    have e : f x = c := by
      have h1 := (hS x hwx).2
      rw [hat] at h1
      simp only [DataW.lit.injEq, Lit.int.injEq, true_and] at h1
      exact h1.symm
    refine hMore x c w' cnt' e.symm hwx ((hL x hwx).symm.trans hlx) ⟨D, _, hrg, hi, hS, fun k hk => ?_⟩ hlt hgr hsz hen
    show (left (.int .u64 k) && !(Lit.int .u64 k).sameKey (.int .u64 x)) = _
    rw [hL k hk, same22]
end
end Go.Proofs.YtcbiehinhmkjmaaDoor.NB
