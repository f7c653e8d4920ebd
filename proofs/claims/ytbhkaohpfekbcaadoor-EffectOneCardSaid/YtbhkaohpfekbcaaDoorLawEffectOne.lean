/- EffectOne: for every verdict, whatever is around and every reply the law returns true and its arguments read as before; the table of the actions' effects lies as the program's text lays it, and the card ties it to that text. -/
import Derived.Test.YtbhkaohpfekbcaaDoorRows
import Derived.Test.YtbhkaohpfekbcaaDoorCards
import Derived.Test.YtbhkaohpfekbcaaDoorTie
import Derived.Test.YtbhkaohpfekbcaaDoorET
import Derived.Test.YtbhkaohpfekbcaaDoorEGFd
import Derived.Test.YtbhkaohpfekbcaaDoorOpen
import Derived.WalkKit
import Derived.ProofKit
import Derived.OpenShut
import Derived.ShutString
import Derived.ChangeOld
import Derived.Below
import Derived.SizedLaws
import Derived.LaidMore
import Derived.LaidOnce
import Derived.SevenTiedAt
import Derived.Stop.Joined
import Derived.LaidHandle
namespace Go.Proofs.YtbhkaohpfekbcaaDoor.effectOne
open Go.ChangeShapes Go.WideShapes Go.ChangeAt Go.RowKit Go.Proofs.YtbhkaohpfekbcaaDoorW.PrintWords Go.Proofs.YtbhkaohpfekbcaaDoorW.PrintLast Go.Proofs.YtbhkaohpfekbcaaDoorW.PrintMore Go.Proofs.YtbhkaohpfekbcaaDoor.Open Go.Proofs.YtbhkaohpfekbcaaDoor.PFd Go.Proofs.YtbhkaohpfekbcaaDoor.Open
open Go.ChangeMaps (open_string shut_string)
set_option linter.unusedVariables false
set_option linter.unusedSimpArgs false
theorem own : ownKnob Tryd.prog.godebug = none := by kernel_rfl
theorem laidOut : laidOutB Tryd.prog = true := by kernel_rfl
structure S24 where
  f0 : Int
  f1 : Int
def k24 : Kd S24 := Kd.iso (Kd.pair (Kd.int .i64) (Kd.int .u16)) (fun x : S24 => (x.f0, x.f1))
def wf24 (x : S24) : Prop := (Lit.int .i64 x.f0).wf = true ∧ (Lit.int .u16 x.f1).wf = true
theorem opens24 : Opens Tryd.prog 24 k24 wf24 :=
  opens_iso (g := fun x => ((⟨x.1, x.2⟩ : S24))) (fun _ => rfl) (opens_struct Tryd.underlying24 (by kernel_rfl) (opens_fs_cons rfl (by kernel_rfl) (opens_int Tryd.underlying3) (opens_fs_one rfl (by kernel_rfl) (opens_int Tryd.underlying22))))

structure S26 where
  f0 : Bool
  f1 : Bool
def k26 : Kd S26 := Kd.iso (Kd.pair Kd.bool Kd.bool) (fun x : S26 => (x.f0, x.f1))
def wf26 (x : S26) : Prop := True ∧ True
theorem opens26 : Opens Tryd.prog 26 k26 wf26 :=
  opens_iso (g := fun x => ((⟨x.1, x.2⟩ : S26))) (fun _ => rfl) (opens_struct Tryd.underlying26 (by kernel_rfl) (opens_fs_cons rfl (by kernel_rfl) (opens_bool Tryd.underlying4) (opens_fs_one rfl (by kernel_rfl) (opens_bool Tryd.underlying4))))

structure S35 where
  f0 : Bool
  f1 : Int
def k35 : Kd S35 := Kd.iso (Kd.pair Kd.bool (Kd.int .i64)) (fun x : S35 => (x.f0, x.f1))
def wf35 (x : S35) : Prop := True ∧ (Lit.int .i64 x.f1).wf = true
theorem opens35 : Opens Tryd.prog 35 k35 wf35 :=
  opens_iso (g := fun x => ((⟨x.1, x.2⟩ : S35))) (fun _ => rfl) (opens_struct Tryd.underlying35 (by kernel_rfl) (opens_fs_cons rfl (by kernel_rfl) (opens_bool Tryd.underlying4) (opens_fs_one rfl (by kernel_rfl) (opens_int Tryd.underlying2))))

set_option maxRecDepth 100000 in
theorem lifted (os : Os) (started : os.Started) (H : Type) (enc : TypeId × Value → H) :
    ReturnsInHanded {} Tryd.checked os 6 .any (fun w args => (Rows.effectOneSpec.pre enc Tryd.prog Tryd.f6 [] false w args ∧ laidMetH Tryd.prog Go.Proofs.YtbhkaohpfekbcaaDoor.PE.L.laidL w) ∧ sizedMet enc Tryd.prog Tryd.f6 (OpenSpec.ofChange Rows.effectOneSpec) false w args)
      (Rows.effectOneSpec.post enc Tryd.prog Tryd.f6 false true false false) := by
  refine returnsInHanded_of_change_and (C := Tryd.checked) (X := fun w _ => laidMetH Tryd.prog Go.Proofs.YtbhkaohpfekbcaaDoor.PE.L.laidL w) (fun _ _ _ hh h => h.of_heap hh) own started (by kernel_rfl) Tryd.func6
    (ChangeSpec.witness_shaped (enc := enc) (C := Tryd.checked) (os := os) (X := fun w _ => laidMetH Tryd.prog Go.Proofs.YtbhkaohpfekbcaaDoor.PE.L.laidL w) false (World.doorLaid Tryd.prog 14 os) #[.agg #[.int .i64 0, .int .u16 0], .agg #[.bool false, .bool false], .agg #[.bool false, .int .i64 0]] 8 rfl (World.shaped_of_RefB (by kernel_rfl) (by kernel_rfl)) (by kernel_rfl) (by kernel_rfl) (by kernel_rfl) (Go.Proofs.YtbhkaohpfekbcaaDoor.PE.L.door_met os _)) ?_
  intro W base args ds gs before hval0 hW _ hsz0 hL _
  have hsz := hsz0
  have hT := Go.Proofs.YtbhkaohpfekbcaaDoor.PE.L.tab_of_laid hL
  have hval : ∀ (j : Nat) t v, Tryd.f6.params[j]? = some t → args[j]? = some v → Value.okWide Tryd.prog W .any base t v := hval0
  have hW' := hW
  obtain ⟨p, q, hA0, hV, rfl, hfz, hnd⟩ := hW
  have hA : DataW.TrodAll enc Tryd.prog W 0 (fun _ => true) true Tryd.f6.params.toList args.toList ds p := hA0
  rw [Tryd.params6] at hA hval
  obtain ⟨v0, vs0, d0, ds0, p0, q0, hargs, rfl, rfl, h0, r0⟩ := trodAll_cons hA
  obtain ⟨v1, vs1, d1, ds1, p1, q1, rfl, rfl, rfl, h1, r1⟩ := trodAll_cons r0
  obtain ⟨v2, vs2, d2, ds2, p2, q2, rfl, rfl, rfl, h2, r2⟩ := trodAll_cons r1
  obtain ⟨rfl, rfl, rfl⟩ := trodAll_nil r2
  obtain rfl : args = #[v0, v1, v2] := by cases args; simp_all
  obtain ⟨rfl, rfl⟩ := trodVars_none hV
  obtain ⟨cs0, rfl, _⟩ := okWide_struct Tryd.underlying24 (hval 0 24 v0 rfl rfl)
  have k0_ := h0
  have lt0 : ∀ x ∈ p0, x.block < W.heap.size := by obtain ⟨m, hm⟩ := k0_; exact DataW.trod_lt m _ _ _ hm
  obtain ⟨f0, hf0⟩ := h0
  obtain ⟨x0, hK0, hw0⟩ := opens24 _ _ _ _ _ _ _ _ _ hf0
  obtain ⟨cl0, hcl0⟩ : ∃ l, (Value.cells (.agg cs0)).toList = l := ⟨_, rfl⟩
  rw [hcl0] at hK0
  obtain ⟨_, _, rfl, rfl, rfl⟩ := hK0
  obtain rfl : cs0 = #[.int .i64 x0.f0, .int .u16 x0.f1] := Array.toList_inj.1 (by simpa [Value.cells] using hcl0)
  obtain ⟨cs1, rfl, _⟩ := okWide_struct Tryd.underlying26 (hval 1 26 v1 rfl rfl)
  have k1_ := h1
  have lt1 : ∀ x ∈ p1, x.block < W.heap.size := by obtain ⟨m, hm⟩ := k1_; exact DataW.trod_lt m _ _ _ hm
  obtain ⟨f1, hf1⟩ := h1
  obtain ⟨x1, hK1, hw1⟩ := opens26 _ _ _ _ _ _ _ _ _ hf1
  obtain ⟨cl1, hcl1⟩ : ∃ l, (Value.cells (.agg cs1)).toList = l := ⟨_, rfl⟩
  rw [hcl1] at hK1
  obtain ⟨_, _, rfl, rfl, rfl⟩ := hK1
  obtain rfl : cs1 = #[.bool x1.f0, .bool x1.f1] := Array.toList_inj.1 (by simpa [Value.cells] using hcl1)
  obtain ⟨cs2, rfl, _⟩ := okWide_struct Tryd.underlying35 (hval 2 35 v2 rfl rfl)
  have k2_ := h2
  have lt2 : ∀ x ∈ p2, x.block < W.heap.size := by obtain ⟨m, hm⟩ := k2_; exact DataW.trod_lt m _ _ _ hm
  obtain ⟨f2, hf2⟩ := h2
  obtain ⟨x2, hK2, hw2⟩ := opens35 _ _ _ _ _ _ _ _ _ hf2
  obtain ⟨cl2, hcl2⟩ : ∃ l, (Value.cells (.agg cs2)).toList = l := ⟨_, rfl⟩
  rw [hcl2] at hK2
  obtain ⟨_, _, rfl, rfl, rfl⟩ := hK2
  obtain rfl : cs2 = #[.bool x2.f0, .int .i64 x2.f1] := Array.toList_inj.1 (by simpa [Value.cells] using hcl2)
  simp only [List.append_nil] at hW'
  refine (wicketgatelaw21_EffectOne.calls 10 x0.f0 x0.f1 x1.f0 x1.f1 x2.f0 x2.f1 true W (EffectOne_p x0.f0 x0.f1 x1.f0 x1.f1 x2.f0 x2.f1 (wf_u16 hw0.2).1 (wf_u16 hw0.2).2) hT).mono fun e W' hpost => ?_
  obtain ⟨he, bel⟩ := hpost
  subst he
  exact ⟨_, rfl, _, _, _, [], _, [], hW', trodAll_mk1 (shut_bool Tryd.underlying4 _), (trodAll_cons_mk (Below.trod laidOut (by kernel_rfl) (of_decide_eq_true (by kernel_rfl)) k0_ bel lt0) (trodAll_cons_mk (Below.trod laidOut (by kernel_rfl) (of_decide_eq_true (by kernel_rfl)) k1_ bel lt1) (trodAll_cons_mk (Below.trod laidOut (by kernel_rfl) (of_decide_eq_true (by kernel_rfl)) k2_ bel lt2) trodAll_mk0))), rfl, bel.frame _, fun h => by cases h⟩
theorem over : Rows.effectOneRow.holds Tryd.pinned (OpenSpec.ofChange Rows.effectOneSpec) :=
  OpenClaim.holds_of_wide 6 Tryd.f6 rfl rfl rfl rfl rfl rfl rfl ⟨rfl, rfl, rfl, rfl, rfl⟩ rfl rfl rfl rfl rfl (by kernel_rfl) Tryd.func6 (by kernel_rfl)
    (of_decide_eq_true (by kernel_rfl)) (by unfold Func.isWrapper; first | (rw [if_pos (by decide +kernel)]; kernel_rfl) | (rw [if_neg (by decide +kernel)]; exact ⟨rfl, rfl⟩))
    (fun os started H enc _ => lifted os started H enc)
theorem proved : Rows.EffectOneSaid := over
theorem carded : Rows.EffectOneCardSaid :=
  Claim7.holds_tied_plain_at .later [] [.funcs] true (true, "efbbb10d5424bfc9ce6d70f5b4e1f4f8068b22bd2e1a105e53307523c33ee027") false
    proved (fun _ h => by cases h) (by kernel_rfl) (fun _ h => by cases h) effectOne_row_tie rfl ⟨rfl, rfl⟩ (by kernel_rfl) rfl
    (fun f fn hf hfn => by
      obtain rfl : f = 6 := Option.some.inj ((show Tryd.prog.funcNamed "wicketgate/wicketgatelaw21.EffectOne" = some 6 by kernel_rfl).symm.trans hf) |>.symm
      obtain rfl : fn = Tryd.f6 := (Option.some.inj (Tryd.func6.symm.trans hfn)).symm
      exact ⟨by kernel_rfl, fun j t ht => by
        rw [Tryd.params6] at ht
        have hm : t ∈ [24, 26, 35] := by simpa using Array.mem_of_getElem? ht
        have hall : ([24, 26, 35].all fun u => !Tryd.prog.wantsStandIn u) = true := by kernel_rfl
        exact (show Tryd.prog.wantsStandIn t = false by simpa using List.all_eq_true.1 hall t hm)⟩)
    (by kernel_rfl)
#print axioms carded
end Go.Proofs.YtbhkaohpfekbcaaDoor.effectOne
namespace Go.Proofs.YtbhkaohpfekbcaaDoor
/-- The statement, under a short name, for the claim. -/
theorem effectOne_holds : Rows.EffectOneCardSaid := effectOne.carded
end Go.Proofs.YtbhkaohpfekbcaaDoor
