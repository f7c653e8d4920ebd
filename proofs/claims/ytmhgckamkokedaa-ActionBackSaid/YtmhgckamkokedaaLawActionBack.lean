/- ActionBack: for every word and every verdict the law returns true and its arguments read as before; no condition. -/
import Derived.Test.YtmhgckamkokedaaRows
import Derived.Test.YtmhgckamkokedaaAP
import Derived.Test.YtmhgckamkokedaaOpen
import Derived.WalkKit
import Derived.ProofKit
import Derived.OpenShut
import Derived.ShutString
import Derived.ChangeOld
import Derived.Below
import Derived.SizedLaws
namespace Go.Proofs.Ytmhgckamkokedaa.actionBack
open Go.ChangeShapes Go.WideShapes Go.ChangeAt Go.RowKit Go.Proofs.YtmhgckamkokedaaW.PrintWords Go.Proofs.YtmhgckamkokedaaW.PrintLast Go.Proofs.YtmhgckamkokedaaW.PrintMore Go.Proofs.Ytmhgckamkokedaa.Open Go.Proofs.Ytmhgckamkokedaa.PB
open Go.ChangeMaps (open_string shut_string)
set_option linter.unusedVariables false
set_option linter.unusedSimpArgs false
theorem own : ownKnob Try.prog.godebug = none := by kernel_rfl
theorem laidOut : laidOutB Try.prog = true := by kernel_rfl
def wf27 (x : S27) : Prop := (Lit.int .i64 x.f0).wf = true ∧ (Lit.int .u16 x.f1).wf = true
theorem opens27 : Opens Try.prog 27 k27 wf27 :=
  opens_iso (g := fun x => ((⟨x.1, x.2⟩ : S27))) (fun _ => rfl) (opens_struct Try.underlying27 (by kernel_rfl) (opens_fs_cons rfl (by kernel_rfl) (opens_int Try.underlying3) (opens_fs_one rfl (by kernel_rfl) (opens_int Try.underlying25))))

set_option maxRecDepth 100000 in
theorem lifted (os : Os) (started : os.Started) (H : Type) (enc : TypeId × Value → H) :
    ReturnsInHanded {} Try.checked os 7 .any (Rows.actionBackSpec.pre6 enc Try.prog Try.f7 Rows.actionBackRow.domain false) (Rows.actionBackSpec.post enc Try.prog Try.f7 false true false false) := by
  refine returnsInHanded_of_change_sized (C := Try.checked) own started (by kernel_rfl) Try.func7
    (ChangeSpec.witness6 (enc := enc) (C := Try.checked) false ⟨#[], #[.int .u32 0, .agg #[.int .i64 0, .int .u16 0]], []⟩ 8 (by kernel_rfl) (by kernel_rfl) (by kernel_rfl) (by kernel_rfl)) ?_
  intro W base args ds gs before hval0 hW hcnd hsz0 _
  have hsz := hsz0
  have hval : ∀ (j : Nat) t v, Try.f7.params[j]? = some t → args[j]? = some v → Value.okWide Try.prog W .any base t v := hval0
  have hW' := hW
  obtain ⟨p, q, hA0, hV, rfl, hfz, hnd⟩ := hW
  have hA : DataW.TrodAll enc Try.prog W 0 (fun _ => true) true Try.f7.params.toList args.toList ds p := hA0
  rw [Try.params7] at hA hval
  obtain ⟨v0, vs0, d0, ds0, p0, q0, hargs, rfl, rfl, h0, r0⟩ := trodAll_cons hA
  obtain ⟨v1, vs1, d1, ds1, p1, q1, rfl, rfl, rfl, h1, r1⟩ := trodAll_cons r0
  obtain ⟨rfl, rfl, rfl⟩ := trodAll_nil r1
  obtain rfl : args = #[v0, v1] := by cases args; simp_all
  obtain ⟨rfl, rfl⟩ := trodVars_none hV
  obtain ⟨x0, rfl, rfl, rfl, hw0⟩ := open_int Try.underlying32 (hval 0 32 v0 rfl rfl) h0
  obtain ⟨cs1, rfl, _⟩ := okWide_struct Try.underlying27 (hval 1 27 v1 rfl rfl)
  have k1_ := h1
  have lt1 : ∀ x ∈ p1, x.block < W.heap.size := by obtain ⟨m, hm⟩ := k1_; exact DataW.trod_lt m _ _ _ hm
  obtain ⟨f1, hf1⟩ := h1
  obtain ⟨x1, hK1, hw1⟩ := opens27 _ _ _ _ _ _ _ _ _ hf1
  obtain ⟨cl1, hcl1⟩ : ∃ l, (Value.cells (.agg cs1)).toList = l := ⟨_, rfl⟩
  rw [hcl1] at hK1
  obtain ⟨_, _, rfl, rfl, rfl⟩ := hK1
  obtain rfl : cs1 = #[.int .i64 x1.f0, .int .u16 x1.f1] := Array.toList_inj.1 (by simpa [Value.cells] using hcl1)
  refine (wicketgatelaw06_ActionBack.calls 1000 x0 x1.f0 x1.f1 true W (ActionBack_p x0 x1.f0 x1.f1 (wf_u32 hw0).1 (wf_u32 hw0).2 (wf_u16 hw1.2).1 (wf_u16 hw1.2).2) rfl).mono fun e W' hpost => ?_
  obtain ⟨he, bel⟩ := hpost
  subst he
  exact ⟨_, rfl, _, _, _, [], _, [], hW', trodAll_mk1 (shut_bool Try.underlying4 _), (trodAll_cons_mk (shut_int Try.underlying32 hw0) (trodAll_cons_mk (Below.trod laidOut (by kernel_rfl) (of_decide_eq_true (by kernel_rfl)) k1_ bel lt1) trodAll_mk0)), rfl, bel.frame _, fun h => by cases h⟩
theorem over : Rows.actionBackRow.holds Try.pinned (OpenSpec.ofChange Rows.actionBackSpec) :=
  OpenClaim.holds_of_wide 7 Try.f7 rfl rfl rfl rfl rfl rfl rfl ⟨rfl, rfl, rfl, rfl, rfl⟩ rfl rfl rfl rfl rfl (by kernel_rfl) Try.func7 (by kernel_rfl)
    (of_decide_eq_true (by kernel_rfl)) (by unfold Func.isWrapper; first | (rw [if_pos (by decide +kernel)]; kernel_rfl) | (rw [if_neg (by decide +kernel)]; exact ⟨rfl, rfl⟩))
    (fun os started H enc _ => lifted os started H enc)
theorem proved : Rows.ActionBackSaid := over
#print axioms proved
end Go.Proofs.Ytmhgckamkokedaa.actionBack
namespace Go.Proofs.Ytmhgckamkokedaa
/-- The statement, under a short name, for the claim. -/
theorem actionBack_holds : Rows.ActionBackSaid := actionBack.proved
end Go.Proofs.Ytmhgckamkokedaa
