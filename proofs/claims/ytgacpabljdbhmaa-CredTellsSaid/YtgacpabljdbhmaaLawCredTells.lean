/- CredTells: for all credentials a and b the law returns true and its arguments read as before; no condition. -/
import Derived.Test.YtgacpabljdbhmaaRows
import Derived.Test.YtgacpabljdbhmaaCN
import Derived.Test.YtgacpabljdbhmaaOpen
import Derived.WalkKit
import Derived.ProofKit
import Derived.OpenShut
import Derived.ShutString
import Derived.ChangeOld
import Derived.Below
import Derived.SizedLaws
namespace Go.Proofs.Ytgacpabljdbhmaa.credTells
open Go.ChangeShapes Go.WideShapes Go.ChangeAt Go.RowKit Go.Proofs.Ytgacpabljdbhmaa.PC Go.Proofs.Ytgacpabljdbhmaa.PC.L Go.Proofs.Ytgacpabljdbhmaa.Open
open Go.ChangeMaps (open_string shut_string)
set_option linter.unusedVariables false
set_option linter.unusedSimpArgs false
theorem own : ownKnob Try.prog.godebug = none := by kernel_rfl
theorem laidOut : laidOutB Try.prog = true := by kernel_rfl
def wf23 (x : S23) : Prop := (Lit.int .i64 x.f0).wf = true ∧ True ∧ True ∧ (Lit.int .i64 x.f3).wf = true
theorem opens23 : Opens Try.prog 23 k23 wf23 :=
  opens_iso (g := fun x => ((⟨x.1, x.2.1, x.2.2.1, x.2.2.2⟩ : S23))) (fun _ => rfl) (opens_struct Try.underlying23 (by kernel_rfl) (opens_fs_cons rfl (by kernel_rfl) (opens_int Try.underlying3) (opens_fs_cons rfl (by kernel_rfl) (opens_bool Try.underlying4) (opens_fs_cons rfl (by kernel_rfl) (opens_bool Try.underlying4) (opens_fs_one rfl (by kernel_rfl) (opens_int Try.underlying3))))))

set_option maxRecDepth 100000 in
theorem lifted (os : Os) (started : os.Started) (H : Type) (enc : TypeId × Value → H) :
    ReturnsInHanded {} Try.checked os 6 .any (Rows.credTellsSpec.pre6 enc Try.prog Try.f6 Rows.credTellsRow.domain false) (Rows.credTellsSpec.post enc Try.prog Try.f6 false true false false) := by
  refine returnsInHanded_of_change_sized (C := Try.checked) own started (by kernel_rfl) Try.func6
    (ChangeSpec.witness6 (enc := enc) (C := Try.checked) false ⟨#[], #[.agg #[.int .i64 0, .bool false, .bool false, .int .i64 0], .agg #[.int .i64 0, .bool false, .bool false, .int .i64 0]], []⟩ 8 (by kernel_rfl) (by kernel_rfl) (by kernel_rfl) (by kernel_rfl)) ?_
  intro W base args ds gs before hval0 hW hcnd hsz0 _
  have hsz := hsz0
  have hval : ∀ (j : Nat) t v, Try.f6.params[j]? = some t → args[j]? = some v → Value.okWide Try.prog W .any base t v := hval0
  have hW' := hW
  obtain ⟨p, q, hA0, hV, rfl, hfz, hnd⟩ := hW
  have hA : DataW.TrodAll enc Try.prog W 0 (fun _ => true) true Try.f6.params.toList args.toList ds p := hA0
  rw [Try.params6] at hA hval
  obtain ⟨v0, vs0, d0, ds0, p0, q0, hargs, rfl, rfl, h0, r0⟩ := trodAll_cons hA
  obtain ⟨v1, vs1, d1, ds1, p1, q1, rfl, rfl, rfl, h1, r1⟩ := trodAll_cons r0
  obtain ⟨rfl, rfl, rfl⟩ := trodAll_nil r1
  obtain rfl : args = #[v0, v1] := by cases args; simp_all
  obtain ⟨rfl, rfl⟩ := trodVars_none hV
  obtain ⟨cs0, rfl, _⟩ := okWide_struct Try.underlying23 (hval 0 23 v0 rfl rfl)
  have k0 := h0
  have lt0 : ∀ x ∈ p0, x.block < W.heap.size := by obtain ⟨m, hm⟩ := k0; exact DataW.trod_lt m _ _ _ hm
  obtain ⟨f0, hf0⟩ := h0
  obtain ⟨x0, hK0, hw0⟩ := opens23 _ _ _ _ _ _ _ _ _ hf0
  have e0 := k23_open hK0
  obtain rfl : cs0 = #[.int .i64 x0.f0, .bool x0.f1, .bool x0.f2, .int .i64 x0.f3] := Array.toList_inj.1 (by simpa [Value.cells] using e0)
  obtain ⟨cs1, rfl, _⟩ := okWide_struct Try.underlying23 (hval 1 23 v1 rfl rfl)
  have k1 := h1
  have lt1 : ∀ x ∈ p1, x.block < W.heap.size := by obtain ⟨m, hm⟩ := k1; exact DataW.trod_lt m _ _ _ hm
  obtain ⟨f1, hf1⟩ := h1
  obtain ⟨x1, hK1, hw1⟩ := opens23 _ _ _ _ _ _ _ _ _ hf1
  have e1 := k23_open hK1
  obtain rfl : cs1 = #[.int .i64 x1.f0, .bool x1.f1, .bool x1.f2, .int .i64 x1.f3] := Array.toList_inj.1 (by simpa [Value.cells] using e1)
  refine (CredTells_w x0.f0 x0.f1 x0.f2 x0.f3 x1.f0 x1.f1 x1.f2 x1.f3 W).mono fun e W' ⟨he, bel⟩ => ?_
  subst he
  exact ⟨_, rfl, _, _, _, [], _, [], hW', trodAll_mk1 (shut_bool Try.underlying4 _), (trodAll_cons_mk (Below.trod laidOut (by kernel_rfl) (of_decide_eq_true (by kernel_rfl)) k0 bel lt0) (trodAll_cons_mk (Below.trod laidOut (by kernel_rfl) (of_decide_eq_true (by kernel_rfl)) k1 bel lt1) trodAll_mk0)), rfl, bel.frame _, fun h => by cases h⟩
theorem over : Rows.credTellsRow.holds Try.pinned (OpenSpec.ofChange Rows.credTellsSpec) :=
  OpenClaim.holds_of_wide 6 Try.f6 rfl rfl rfl rfl rfl rfl rfl ⟨rfl, rfl, rfl, rfl, rfl⟩ rfl rfl rfl rfl rfl (by kernel_rfl) Try.func6 (by kernel_rfl)
    (of_decide_eq_true (by kernel_rfl)) (by unfold Func.isWrapper; first | (rw [if_pos (by decide +kernel)]; kernel_rfl) | (rw [if_neg (by decide +kernel)]; exact ⟨rfl, rfl⟩))
    (fun os started H enc _ => lifted os started H enc)
theorem proved : Rows.CredTellsSaid := over
#print axioms proved
end Go.Proofs.Ytgacpabljdbhmaa.credTells
namespace Go.Proofs.Ytgacpabljdbhmaa
/-- The row, under a short name, for the claim. -/
theorem credTells_holds : Rows.CredTellsSaid := credTells.proved
end Go.Proofs.Ytgacpabljdbhmaa
