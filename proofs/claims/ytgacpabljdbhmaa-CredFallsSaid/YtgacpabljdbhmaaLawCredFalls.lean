/- CredFalls: for all credentials and every row of deeds the law returns true and its arguments read as before; no condition. -/
import Derived.Test.YtgacpabljdbhmaaRows
import Derived.Test.YtgacpabljdbhmaaCG
import Derived.Test.YtgacpabljdbhmaaOpen
import Derived.WalkKit
import Derived.ProofKit
import Derived.OpenShut
import Derived.ShutString
import Derived.ChangeOld
import Derived.Below
import Derived.SizedLaws
namespace Go.Proofs.Ytgacpabljdbhmaa.credFalls
open Go.ChangeShapes Go.WideShapes Go.ChangeAt Go.RowKit Go.Proofs.Ytgacpabljdbhmaa.PC Go.Proofs.Ytgacpabljdbhmaa.PC.L Go.Proofs.Ytgacpabljdbhmaa.Open
open Go.ChangeMaps (open_string shut_string)
set_option linter.unusedVariables false
set_option linter.unusedSimpArgs false
theorem own : ownKnob Try.prog.godebug = none := by kernel_rfl
theorem laidOut : laidOutB Try.prog = true := by kernel_rfl
def wf23 (x : S23) : Prop := (Lit.int .i64 x.f0).wf = true ∧ True ∧ True ∧ (Lit.int .i64 x.f3).wf = true
theorem opens23 : Opens Try.prog 23 k23 wf23 :=
  opens_iso (g := fun x => ((⟨x.1, x.2.1, x.2.2.1, x.2.2.2⟩ : S23))) (fun _ => rfl) (opens_struct Try.underlying23 (by kernel_rfl) (opens_fs_cons rfl (by kernel_rfl) (opens_int Try.underlying3) (opens_fs_cons rfl (by kernel_rfl) (opens_bool Try.underlying4) (opens_fs_cons rfl (by kernel_rfl) (opens_bool Try.underlying4) (opens_fs_one rfl (by kernel_rfl) (opens_int Try.underlying3))))))
def wf25 (x : S25) : Prop := (Lit.int .i64 x.f0).wf = true ∧ True
theorem opens25 : Opens Try.prog 25 k25 wf25 :=
  opens_iso (g := fun x => ((⟨x.1, x.2⟩ : S25))) (fun _ => rfl) (opens_struct Try.underlying25 (by kernel_rfl) (opens_fs_cons rfl (by kernel_rfl) (opens_int Try.underlying3) (opens_fs_one rfl (by kernel_rfl) (opens_bool Try.underlying4))))
def wf41 (x : S41) : Prop := (Lit.int .i64 x.f0).wf = true ∧ (Lit.int .i64 x.f1).wf = true ∧ wf25 x.f2
theorem opens41 : Opens Try.prog 41 k41 wf41 :=
  opens_iso (g := fun x => ((⟨x.1, x.2.1, x.2.2⟩ : S41))) (fun _ => rfl) (opens_struct Try.underlying41 (by kernel_rfl) (opens_fs_cons rfl (by kernel_rfl) (opens_int Try.underlying3) (opens_fs_cons rfl (by kernel_rfl) (opens_int Try.underlying3) (opens_fs_one rfl (by kernel_rfl) opens25))))

set_option maxRecDepth 100000 in
theorem lifted (os : Os) (started : os.Started) (H : Type) (enc : TypeId × Value → H) :
    ReturnsInHanded {} Try.checked os 7 .any (Rows.credFallsSpec.pre6 enc Try.prog Try.f7 Rows.credFallsRow.domain false) (Rows.credFallsSpec.post enc Try.prog Try.f7 false true false false) := by
  refine returnsInHanded_of_change_sized (C := Try.checked) own started (by kernel_rfl) Try.func7
    (ChangeSpec.witness6 (enc := enc) (C := Try.checked) false ⟨#[], #[.agg #[.int .i64 0, .bool false, .bool false, .int .i64 0], .slice none 0 0], []⟩ 8 (by kernel_rfl) (by kernel_rfl) (by kernel_rfl) (by kernel_rfl)) ?_
  intro W base args ds gs before hval0 hW hcnd hsz0 _
  have hsz := hsz0
  have hval : ∀ (j : Nat) t v, Try.f7.params[j]? = some t → args[j]? = some v → Value.okWide Try.prog W .any base t v := hval0
  have hW' := hW
  obtain ⟨p, q, hA0, hV, rfl, hfz, hnd⟩ := hW
  have hA : DataW.TrodAll enc Try.prog W 0 (fun _ => true) true Try.f7.params.toList args.toList ds p := hA0
  rw [Try.params7] at hA hval
  obtain ⟨v0, vs0, d0, ds0, p0, q0, hargs, rfl, rfl, h0, r0⟩ := trodAll_cons hA
  obtain ⟨v1, vs1, d1, ds1, p1, q1, rfl, rfl, rfl, h1, r1⟩ := trodAll_cons r0
  obtain ⟨rfl, rfl, rfl⟩ := trodAll_nil r1
  obtain rfl : args = #[v0, v1] := by cases args; simp_all
  obtain ⟨rfl, rfl⟩ := trodVars_none hV
  obtain ⟨cs0, rfl, _⟩ := okWide_struct Try.underlying23 (hval 0 23 v0 rfl rfl)
  have k0 := h0
  have lt0 : ∀ x ∈ p0, x.block < W.heap.size := by obtain ⟨m, hm⟩ := k0; exact DataW.trod_lt m _ _ _ hm
  obtain ⟨f0, hf0⟩ := h0
  obtain ⟨x0, hK0, hw0⟩ := opens23 _ _ _ _ _ _ _ _ _ hf0
  have e0 := k23_open hK0
  obtain rfl : cs0 = #[.int .i64 x0.f0, .bool x0.f1, .bool x0.f2, .int .i64 x0.f3] := Array.toList_inj.1 (by simpa [Value.cells] using e0)
  obtain ⟨A1, len1, cap1, rfl⟩ := okWide_slice Try.underlying38 (hval 1 38 v1 rfl rfl)
  have k1 := h1
  have lt1 : ∀ x ∈ p1, x.block < W.heap.size := by obtain ⟨m, hm⟩ := k1; exact DataW.trod_lt m _ _ _ hm
  obtain ⟨f1, hf1⟩ := h1
  obtain ⟨x1, hK1, hw1⟩ := (opens_slice Try.underlying38 (by kernel_rfl) opens41) _ _ _ _ _ _ _ _ _ hf1
  obtain ⟨B1, c1, e1, hl1, hC1⟩ := hK1
  simp only [Value.cells, List.cons.injEq, Value.slice.injEq, and_true] at e1
  obtain ⟨rfl, rfl, rfl⟩ := e1
  refine (CredFalls_w x0.f0 x0.f1 x0.f2 x0.f3 A1 _ x1 W hC1).mono fun e W' ⟨he, bel⟩ => ?_
  subst he
  exact ⟨_, rfl, _, _, _, [], _, [], hW', trodAll_mk1 (shut_bool Try.underlying4 _), (trodAll_cons_mk (Below.trod laidOut (by kernel_rfl) (of_decide_eq_true (by kernel_rfl)) k0 bel lt0) (trodAll_cons_mk (Below.trod laidOut (by kernel_rfl) (of_decide_eq_true (by kernel_rfl)) k1 bel lt1) trodAll_mk0)), rfl, bel.frame _, fun h => by cases h⟩
theorem over : Rows.credFallsRow.holds Try.pinned (OpenSpec.ofChange Rows.credFallsSpec) :=
  OpenClaim.holds_of_wide 7 Try.f7 rfl rfl rfl rfl rfl rfl rfl ⟨rfl, rfl, rfl, rfl, rfl⟩ rfl rfl rfl rfl rfl (by kernel_rfl) Try.func7 (by kernel_rfl)
    (of_decide_eq_true (by kernel_rfl)) (by unfold Func.isWrapper; first | (rw [if_pos (by decide +kernel)]; kernel_rfl) | (rw [if_neg (by decide +kernel)]; exact ⟨rfl, rfl⟩))
    (fun os started H enc _ => lifted os started H enc)
theorem proved : Rows.CredFallsSaid := over
#print axioms proved
end Go.Proofs.Ytgacpabljdbhmaa.credFalls
namespace Go.Proofs.Ytgacpabljdbhmaa
/-- The row, under a short name, for the claim. -/
theorem credFalls_holds : Rows.CredFallsSaid := credFalls.proved
end Go.Proofs.Ytgacpabljdbhmaa
