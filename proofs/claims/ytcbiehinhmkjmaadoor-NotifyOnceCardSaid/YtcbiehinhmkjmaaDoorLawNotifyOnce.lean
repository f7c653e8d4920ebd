/- NotifyOnce: for every row of deeds the law returns true and its arguments read as before; the table of the actions' effects lies as the program's text lays it, and the card ties it to that text. -/
import Derived.Test.YtcbiehinhmkjmaaDoorRows
import Derived.Test.YtcbiehinhmkjmaaDoorCards
import Derived.Test.YtcbiehinhmkjmaaDoorTie
import Derived.Test.YtcbiehinhmkjmaaDoorET
import Derived.Test.YtcbiehinhmkjmaaDoorNOw
import Derived.Test.YtcbiehinhmkjmaaDoorOpen
import Derived.WalkKit
import Derived.ProofKit
import Derived.OpenShut
import Derived.ShutString
import Derived.ChangeOld
import Derived.Below
import Derived.SizedLaws
import Derived.LaidMore
import Derived.LaidOnce
import Derived.SevenTiedAt
import Derived.Stop.Joined
import Derived.LaidHandle
namespace Go.Proofs.YtcbiehinhmkjmaaDoor.notifyOnce
open Go.ChangeShapes Go.WideShapes Go.ChangeAt Go.RowKit Go.Proofs.YtcbiehinhmkjmaaDoorW.PrintWords Go.Proofs.YtcbiehinhmkjmaaDoorW.PrintLast Go.Proofs.YtcbiehinhmkjmaaDoorW.PrintMore Go.Proofs.YtcbiehinhmkjmaaDoor.Open Go.Proofs.YtcbiehinhmkjmaaDoor.PB Go.Proofs.YtcbiehinhmkjmaaDoor.NB
open Go.ChangeMaps (open_string shut_string)
set_option linter.unusedVariables false
set_option linter.unusedSimpArgs false
theorem own : ownKnob Tryd.prog.godebug = none := by kernel_rfl
theorem laidOut : laidOutB Tryd.prog = true := by kernel_rfl
def wf42 (x : S42) : Prop := True ∧ (Lit.int .i64 x.f1).wf = true
theorem opens42 : Opens Tryd.prog 42 k42 wf42 :=
  opens_iso (g := fun x => ((⟨x.1, x.2⟩ : S42))) (fun _ => rfl) (opens_struct Tryd.underlying42 (by kernel_rfl) (opens_fs_cons rfl (by kernel_rfl) (opens_bool Tryd.underlying4) (opens_fs_one rfl (by kernel_rfl) (opens_int Tryd.underlying2))))

def wf57 (x : S57) : Prop := (Lit.int .i64 x.f0).wf = true ∧ (Lit.int .i64 x.f1).wf = true ∧ wf42 x.f2
theorem opens57 : Opens Tryd.prog 57 k57 wf57 :=
  opens_iso (g := fun x => ((⟨x.1, x.2.1, x.2.2⟩ : S57))) (fun _ => rfl) (opens_struct Tryd.underlying57 (by kernel_rfl) (opens_fs_cons rfl (by kernel_rfl) (opens_int Tryd.underlying3) (opens_fs_cons rfl (by kernel_rfl) (opens_int Tryd.underlying3) (opens_fs_one rfl (by kernel_rfl) opens42))))

set_option maxRecDepth 100000 in
theorem lifted (os : Os) (started : os.Started) (H : Type) (enc : TypeId × Value → H) :
    ReturnsInHanded {} Tryd.checked os 6 .any (fun w args => (Rows.notifyOnceSpec.pre enc Tryd.prog Tryd.f6 [] false w args ∧ laidMetH Tryd.prog Go.Proofs.YtcbiehinhmkjmaaDoor.PE.L.laidL w) ∧ sizedMet enc Tryd.prog Tryd.f6 (OpenSpec.ofChange Rows.notifyOnceSpec) false w args)
      (Rows.notifyOnceSpec.post enc Tryd.prog Tryd.f6 false true false false) := by
  refine returnsInHanded_of_change_and (C := Tryd.checked) (X := fun w _ => laidMetH Tryd.prog Go.Proofs.YtcbiehinhmkjmaaDoor.PE.L.laidL w) (fun _ _ _ hh h => h.of_heap hh) own started (by kernel_rfl) Tryd.func6
    (ChangeSpec.witness_shaped (enc := enc) (C := Tryd.checked) (os := os) (X := fun w _ => laidMetH Tryd.prog Go.Proofs.YtcbiehinhmkjmaaDoor.PE.L.laidL w) false (World.doorLaid Tryd.prog 14 os) #[.slice none 0 0] 8 rfl (World.shaped_of_RefB (by kernel_rfl) (by kernel_rfl)) (by kernel_rfl) (by kernel_rfl) (by kernel_rfl) (Go.Proofs.YtcbiehinhmkjmaaDoor.PE.L.door_met os _)) ?_
  intro W base args ds gs before hval0 hW _ hsz0 hL _
  have hsz := hsz0
  have hT := Go.Proofs.YtcbiehinhmkjmaaDoor.PE.L.tab_of_laid hL
  have hval : ∀ (j : Nat) t v, Tryd.f6.params[j]? = some t → args[j]? = some v → Value.okWide Tryd.prog W .any base t v := hval0
  have hW' := hW
  obtain ⟨p, q, hA0, hV, rfl, hfz, hnd⟩ := hW
  have hA : DataW.TrodAll enc Tryd.prog W 0 (fun _ => true) true Tryd.f6.params.toList args.toList ds p := hA0
  rw [Tryd.params6] at hA hval
  obtain ⟨v0, vs0, d0, ds0, p0, q0, hargs, rfl, rfl, h0, r0⟩ := trodAll_cons hA
  obtain ⟨rfl, rfl, rfl⟩ := trodAll_nil r0
  obtain rfl : args = #[v0] := by cases args; simp_all
  obtain ⟨rfl, rfl⟩ := trodVars_none hV
  obtain ⟨A0, len0, cap0, rfl⟩ := okWide_slice Tryd.underlying51 (hval 0 51 v0 rfl rfl)
  have k0_ := h0
  have lt0 : ∀ x ∈ p0, x.block < W.heap.size := by obtain ⟨m, hm⟩ := k0_; exact DataW.trod_lt m _ _ _ hm
  obtain ⟨f0, hf0⟩ := h0
  obtain ⟨x0, hK0, hw0⟩ := (opens_slice Tryd.underlying51 (by kernel_rfl) opens57) _ _ _ _ _ _ _ _ _ hf0
  obtain ⟨B0, c0, e0, hl0, hC0⟩ := hK0
  simp only [Value.cells, List.cons.injEq, Value.slice.injEq, and_true] at e0
  obtain ⟨rfl, rfl, rfl⟩ := e0
  simp only [List.append_nil] at hW'
  refine (once_w _ _ x0 W hC0 hT).mono fun e W' hpost => ?_
  obtain ⟨he, bel⟩ := hpost
  subst he
  exact ⟨_, rfl, _, _, _, [], _, [], hW', trodAll_mk1 (shut_bool Tryd.underlying4 _), (trodAll_cons_mk (Below.trod laidOut (by kernel_rfl) (of_decide_eq_true (by kernel_rfl)) k0_ bel lt0) trodAll_mk0), rfl, bel.frame _, fun h => by cases h⟩
theorem over : Rows.notifyOnceRow.holds Tryd.pinned (OpenSpec.ofChange Rows.notifyOnceSpec) :=
  OpenClaim.holds_of_wide 6 Tryd.f6 rfl rfl rfl rfl rfl rfl rfl ⟨rfl, rfl, rfl, rfl, rfl⟩ rfl rfl rfl rfl rfl (by kernel_rfl) Tryd.func6 (by kernel_rfl)
    (of_decide_eq_true (by kernel_rfl)) (by unfold Func.isWrapper; first | (rw [if_pos (by decide +kernel)]; kernel_rfl) | (rw [if_neg (by decide +kernel)]; exact ⟨rfl, rfl⟩))
    (fun os started H enc _ => lifted os started H enc)
theorem proved : Rows.NotifyOnceSaid := over
theorem carded : Rows.NotifyOnceCardSaid :=
  Claim7.holds_tied_plain_at .later [] [.funcs] true (true, "66f34cd8a357d1dd11ddfe5c3bb32f2330e019ffaa22c9605ad3df412ec5c806") false
    proved (fun _ h => by cases h) (by kernel_rfl) (fun _ h => by cases h) notifyOnce_row_tie rfl ⟨rfl, rfl⟩ (by kernel_rfl) rfl
    (fun f fn hf hfn => by
      obtain rfl : f = 6 := Option.some.inj ((show Tryd.prog.funcNamed "wicketgate/wicketgatelaw25.NotifyOnce" = some 6 by kernel_rfl).symm.trans hf) |>.symm
      obtain rfl : fn = Tryd.f6 := (Option.some.inj (Tryd.func6.symm.trans hfn)).symm
      exact ⟨by kernel_rfl, fun j t ht => by
        rw [Tryd.params6] at ht
        have hm : t ∈ [51] := by simpa using Array.mem_of_getElem? ht
        have hall : ([51].all fun u => !Tryd.prog.wantsStandIn u) = true := by kernel_rfl
        exact (show Tryd.prog.wantsStandIn t = false by simpa using List.all_eq_true.1 hall t hm)⟩)
    (by kernel_rfl)
#print axioms carded
end Go.Proofs.YtcbiehinhmkjmaaDoor.notifyOnce
namespace Go.Proofs.YtcbiehinhmkjmaaDoor
/-- The statement, under a short name, for the claim. -/
theorem notifyOnce_holds : Rows.NotifyOnceCardSaid := notifyOnce.carded
end Go.Proofs.YtcbiehinhmkjmaaDoor
