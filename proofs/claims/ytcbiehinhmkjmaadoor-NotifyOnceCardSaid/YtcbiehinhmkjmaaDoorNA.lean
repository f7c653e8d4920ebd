import Derived.Test.YtcbiehinhmkjmaaDoorProg
import Derived.Maps.Own
import Derived.Maps.Views
import Derived.Below
import Derived.WalkKit
import Derived.WalkArith
namespace Go.Proofs.YtcbiehinhmkjmaaDoor.NB
open Go.RowKit Go.Maps
set_option linter.unusedVariables false
set_option linter.unusedSimpArgs false

theorem key3 (k : Int) (h : (Lit.int .i64 k).wf = true) : keyOf Tryd.prog 3 (.int .i64 k) = some (.int .i64 k) := Maps.keyOf_int_mk Tryd.underlying3 h
theorem wf64 {k : Int} (h0 : -9223372036854775808 ≤ k) (h1 : k ≤ 9223372036854775807) : (Lit.int .i64 k).wf = true := WalkArith.wf_i64 ⟨h0, h1⟩
theorem plain_bool_inv' {P : Program} {e : TypeId} (he : P.underlying e = some .bool) {v : Value} {d : DataW Unit} {ps : List MemPlace} (h : plainElem P e v = some (d, ps)) : ∃ b, v = .bool b ∧ d = .lit (.bool b) := by
  unfold plainElem at h
  rw [he] at h
  cases v <;> simp at h
  exact ⟨_, rfl, h.1.symm⟩
theorem plain_bool_inv {v : Value} {d : DataW Unit} {ps : List MemPlace} (h : plainElem Tryd.prog 4 v = some (d, ps)) : ∃ b, v = .bool b ∧ d = .lit (.bool b) := plain_bool_inv' Tryd.underlying4 h
/-- Block b is a set of at most n numbers: those of S. -/
def SetB (w : World) (b n : Nat) (S : Int → Bool) : Prop :=
  ∃ D : DataW Unit, w.ownsMap Tryd.prog 3 (plainElem Tryd.prog 4) b n D ∧ Maps.IsMap D ∧ ∀ k : Int, (Lit.int .i64 k).wf = true → D.atKey (.int .i64 k) (.lit (.bool false)) = .lit (.bool (S k))
theorem SetB.made (w : World) : SetB (w.alloc (.map #[] 0)) w.heap.size 0 (fun _ => false) :=
  ⟨.map [], World.ownsMap_made w _ _ _, Maps.isMap_empty, fun _ _ => rfl⟩
theorem SetB.lt {w : World} {b n : Nat} {S : Int → Bool} (h : SetB w b n S) : b < w.heap.size := by
  obtain ⟨D, h, _⟩ := h
  exact h.lt
theorem SetB.below {w w' : World} {b n B : Nat} {S : Int → Bool} (h : SetB w b n S) (hb : Below B w w') (hlt : b < B) : SetB w' b n S := by
  obtain ⟨D, ⟨es, clock, e, F, hs, hD⟩, hm, hS⟩ := h
  exact ⟨D, ⟨es, clock, (hb.block b hlt).trans e, F, hs, hD⟩, hm, hS⟩
/-- 'm[k]'. -/
theorem SetB.lookup {w : World} {b n : Nat} {S : Int → Bool} (h : SetB w b n S) {k : Int} (hk : (Lit.int .i64 k).wf = true) : (Instr.lookup 82 (.map (some b)) (.int .i64 k) false).run Tryd.prog w = .ok (.bool (S k)) w := by
  obtain ⟨D, ho, _, hS⟩ := h
  obtain ⟨v, ps, hrun, hv⟩ := ho.lookup (t := 82) (e := 4) (int_keyed Tryd.underlying3) Tryd.underlying82 (z := .bool false) (by kernel_rfl) (plainElem_bool Tryd.underlying4 false) (key3 k hk)
  rw [hS k hk] at hv
  obtain ⟨c, rfl, hc⟩ := plain_bool_inv hv
  simp only [DataW.lit.injEq, Lit.bool.injEq] at hc
  rw [hrun, hc]
/-- 'm[k] = true'. -/
theorem SetB.put {w : World} {b n : Nat} {S : Int → Bool} (h : SetB w b n S) (hn : n < maxLen) {k : Int} (hk : (Lit.int .i64 k).wf = true) :
    ∃ w', (Instr.mapUpdate 82 (.map (some b)) (.int .i64 k) (.bool true)).run Tryd.prog w = .ok () w' ∧ SetB w' b (n + 1) (fun j => j == k || S j) ∧ ∀ B, B ≤ b → Below B w w' := by
  obtain ⟨D, ho, hm, hS⟩ := h
  obtain ⟨w', hrun, h1, h2⟩ := ho.update (t := 82) (e := 4) (int_keyed Tryd.underlying3) Tryd.underlying82 hn (key3 k hk) (plainElem_bool Tryd.underlying4 true)
  refine ⟨w', hrun, ⟨_, h1, hm.put _ _, fun j hj => ?_⟩, fun B hB => (Below.refl B w).grown h2 (Nat.le_trans hB (Nat.le_of_lt ho.lt)) (fun q e => by cases e; exact hB)⟩
  by_cases e : j = k
  · subst e
    rw [Maps.atKey_put_same hm (show WideAt.IsKeyLit (Lit.int .i64 j) from trivial)]
    simp
  · rw [Maps.atKey_put_other (by intro h; injection h with _ h; exact e h), hS j hj]
    have : (j == k) = false := by simpa using e
    simp [this]
/-- At the operation. -/
theorem wpList_put_set {w : World} {ops : Array Oper} {rest : List Oper} {o : Oper} {a : Act} {Q : Exit → Act → World → Prop}
    (hg : o.guard = none) (m x v : Operand) (hop : o.op = Op.mapUpdate 82 m x v) (b n : Nat) (S : Int → Bool) (hm : a.eval m = .map (some b)) (hs : SetB w b n S) (hn : n < maxLen) (k : Int) (hk : (Lit.int .i64 k).wf = true)
    (hx : a.eval x = .int .i64 k) (hv : a.eval v = .bool true) (hK : ∀ w', SetB w' b (n + 1) (fun j => j == k || S j) → (∀ B, B ≤ b → Below B w w') → wpList Tryd.prog ops Q rest (a.put o.dst undef) w') :
    wpList Tryd.prog ops Q (o :: rest) a w := by
  refine wpList_plain hg fun K' hK' => ?_
  obtain ⟨w', hrun, r1, r2⟩ := hs.put hn hk
  unfold Oper.wp
  simp [execOp, hop, hm, hx, hv, hrun, Result.andThen]
  exact hK' _ _ (hK w' r1 r2)
end Go.Proofs.YtcbiehinhmkjmaaDoor.NB
