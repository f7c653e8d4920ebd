/- LogTells: for every two rings and every room the law returns true and its arguments read as before; the table of the actions' effects lies as the program's text lays it, and the card ties it to that text. -/
import Derived.Test.YtcpabgijmknldaaDoorRows
import Derived.Test.YtcpabgijmknldaaDoorCards
import Derived.Test.YtcpabgijmknldaaDoorTie
import Derived.Test.YtcpabgijmknldaaDoorET
import Derived.Test.YtcpabgijmknldaaDoorUE
import Derived.Test.YtcpabgijmknldaaDoorOpen
import Derived.WalkKit
import Derived.ProofKit
import Derived.OpenShut
import Derived.ShutString
import Derived.ChangeOld
import Derived.Below
import Derived.SizedLaws
import Derived.LaidMore
import Derived.LaidOnce
import Derived.SevenTiedAt
import Derived.Stop.Joined
import Derived.LaidHandle
namespace Go.Proofs.YtcpabgijmknldaaDoor.logTells
open Go.ChangeShapes Go.WideShapes Go.ChangeAt Go.RowKit Go.Proofs.YtcpabgijmknldaaDoorW.PrintWords Go.Proofs.YtcpabgijmknldaaDoorW.PrintLast Go.Proofs.YtcpabgijmknldaaDoorW.PrintMore Go.Proofs.YtcpabgijmknldaaDoor.Open Go.Proofs.YtcpabgijmknldaaDoor.PS Go.Proofs.YtcpabgijmknldaaDoor.RG
open Go.ChangeMaps (open_string shut_string)
set_option linter.unusedVariables false
set_option linter.unusedSimpArgs false
theorem own : ownKnob Tryd.prog.godebug = none := by kernel_rfl
theorem laidOut : laidOutB Tryd.prog = true := by kernel_rfl
def wf29 (x : S29) : Prop := (Lit.int .i64 x.f0).wf = true ∧ (Lit.int .u16 x.f1).wf = true
theorem opens29 : Opens Tryd.prog 29 k29 wf29 :=
  opens_iso (g := fun x => ((⟨x.1, x.2⟩ : S29))) (fun _ => rfl) (opens_struct Tryd.underlying29 (by kernel_rfl) (opens_fs_cons rfl (by kernel_rfl) (opens_int Tryd.underlying3) (opens_fs_one rfl (by kernel_rfl) (opens_int Tryd.underlying27))))

def wf31 (x : S31) : Prop := (Lit.int .u64 x.f0).wf = true ∧ (Lit.int .i64 x.f1).wf = true ∧ (Lit.int .u32 x.f2).wf = true ∧ (Lit.int .u32 x.f3).wf = true ∧ wf29 x.f4
theorem opens31 : Opens Tryd.prog 31 k31 wf31 :=
  opens_iso (g := fun x => ((⟨x.1, x.2.1, x.2.2.1, x.2.2.2.1, x.2.2.2.2⟩ : S31))) (fun _ => rfl) (opens_struct Tryd.underlying31 (by kernel_rfl) (opens_fs_cons rfl (by kernel_rfl) (opens_int Tryd.underlying22) (opens_fs_cons rfl (by kernel_rfl) (opens_int Tryd.underlying3) (opens_fs_cons rfl (by kernel_rfl) (opens_int Tryd.underlying26) (opens_fs_cons rfl (by kernel_rfl) (opens_int Tryd.underlying26) (opens_fs_one rfl (by kernel_rfl) opens29))))))

structure S25 where
  f0 : Int
  f1 : Int
  f2 : List (S31)
def k25 : Kd S25 := Kd.iso (Kd.pair (Kd.int .i64) (Kd.pair (Kd.int .u64) (Kd.slice 31 k31))) (fun x : S25 => (x.f0, x.f1, x.f2))
def wf25 (x : S25) : Prop := (Lit.int .i64 x.f0).wf = true ∧ (Lit.int .u64 x.f1).wf = true ∧ (∀ y0 ∈ x.f2, wf31 y0)
theorem opens25 : Opens Tryd.prog 25 k25 wf25 :=
  opens_iso (g := fun x => ((⟨x.1, x.2.1, x.2.2⟩ : S25))) (fun _ => rfl) (opens_struct Tryd.underlying25 (by kernel_rfl) (opens_fs_cons rfl (by kernel_rfl) (opens_int Tryd.underlying3) (opens_fs_cons rfl (by kernel_rfl) (opens_int Tryd.underlying22) (opens_fs_one rfl (by kernel_rfl) (opens_slice Tryd.underlying23 (by kernel_rfl) opens31)))))

set_option maxRecDepth 100000 in
theorem lifted (os : Os) (started : os.Started) (H : Type) (enc : TypeId × Value → H) :
    ReturnsInHanded {} Tryd.checked os 6 .any (fun w args => (Rows.logTellsSpec.pre enc Tryd.prog Tryd.f6 [] false w args ∧ laidMetH Tryd.prog Go.Proofs.YtcpabgijmknldaaDoor.PE.L.laidL w) ∧ sizedMet enc Tryd.prog Tryd.f6 (OpenSpec.ofChange Rows.logTellsSpec) false w args)
      (Rows.logTellsSpec.post enc Tryd.prog Tryd.f6 false true false false) := by
  refine returnsInHanded_of_change_and (C := Tryd.checked) (X := fun w _ => laidMetH Tryd.prog Go.Proofs.YtcpabgijmknldaaDoor.PE.L.laidL w) (fun _ _ _ hh h => h.of_heap hh) own started (by kernel_rfl) Tryd.func6
    (ChangeSpec.witness_shaped (enc := enc) (C := Tryd.checked) (os := os) (X := fun w _ => laidMetH Tryd.prog Go.Proofs.YtcpabgijmknldaaDoor.PE.L.laidL w) false (World.doorLaid Tryd.prog 14 os) #[.agg #[.int .i64 0, .int .u64 0, .slice none 0 0], .agg #[.int .i64 0, .int .u64 0, .slice none 0 0], .int .i64 0] 8 rfl (World.shaped_of_RefB (by kernel_rfl) (by kernel_rfl)) (by kernel_rfl) (by kernel_rfl) (by kernel_rfl) (Go.Proofs.YtcpabgijmknldaaDoor.PE.L.door_met os _)) ?_
  intro W base args ds gs before hval0 hW _ hsz0 hL _
  have hsz := hsz0
  have hT := Go.Proofs.YtcpabgijmknldaaDoor.PE.L.tab_of_laid hL
  have hval : ∀ (j : Nat) t v, Tryd.f6.params[j]? = some t → args[j]? = some v → Value.okWide Tryd.prog W .any base t v := hval0
  have hW' := hW
  obtain ⟨p, q, hA0, hV, rfl, hfz, hnd⟩ := hW
  have hA : DataW.TrodAll enc Tryd.prog W 0 (fun _ => true) true Tryd.f6.params.toList args.toList ds p := hA0
  rw [Tryd.params6] at hA hval
  obtain ⟨v0, vs0, d0, ds0, p0, q0, hargs, rfl, rfl, h0, r0⟩ := trodAll_cons hA
  obtain ⟨v1, vs1, d1, ds1, p1, q1, rfl, rfl, rfl, h1, r1⟩ := trodAll_cons r0
  obtain ⟨v2, vs2, d2, ds2, p2, q2, rfl, rfl, rfl, h2, r2⟩ := trodAll_cons r1
  obtain ⟨rfl, rfl, rfl⟩ := trodAll_nil r2
  obtain rfl : args = #[v0, v1, v2] := by cases args; simp_all
  obtain ⟨rfl, rfl⟩ := trodVars_none hV
  obtain ⟨cs0, rfl, _⟩ := okWide_struct Tryd.underlying25 (hval 0 25 v0 rfl rfl)
  have k0_ := h0
  have lt0 : ∀ x ∈ p0, x.block < W.heap.size := by obtain ⟨m, hm⟩ := k0_; exact DataW.trod_lt m _ _ _ hm
  obtain ⟨f0, hf0⟩ := h0
  obtain ⟨x0, hK0, hw0⟩ := opens25 _ _ _ _ _ _ _ _ _ hf0
  obtain ⟨cl0, hcl0⟩ : ∃ l, (Value.cells (.agg cs0)).toList = l := ⟨_, rfl⟩
  rw [hcl0] at hK0
  obtain ⟨_, _, rfl, rfl, ⟨_, _, rfl, rfl, ⟨A0_2, c0_2, rfl, hl0_2, hC0_2⟩⟩⟩ := hK0
  obtain rfl : cs0 = #[.int .i64 x0.f0, .int .u64 x0.f1, .slice A0_2 x0.f2.length c0_2] := Array.toList_inj.1 (by simpa [Value.cells] using hcl0)
  obtain ⟨cs1, rfl, _⟩ := okWide_struct Tryd.underlying25 (hval 1 25 v1 rfl rfl)
  have k1_ := h1
  have lt1 : ∀ x ∈ p1, x.block < W.heap.size := by obtain ⟨m, hm⟩ := k1_; exact DataW.trod_lt m _ _ _ hm
  obtain ⟨f1, hf1⟩ := h1
  obtain ⟨x1, hK1, hw1⟩ := opens25 _ _ _ _ _ _ _ _ _ hf1
  obtain ⟨cl1, hcl1⟩ : ∃ l, (Value.cells (.agg cs1)).toList = l := ⟨_, rfl⟩
  rw [hcl1] at hK1
  obtain ⟨_, _, rfl, rfl, ⟨_, _, rfl, rfl, ⟨A1_2, c1_2, rfl, hl1_2, hC1_2⟩⟩⟩ := hK1
  obtain rfl : cs1 = #[.int .i64 x1.f0, .int .u64 x1.f1, .slice A1_2 x1.f2.length c1_2] := Array.toList_inj.1 (by simpa [Value.cells] using hcl1)
  obtain ⟨x2, rfl, rfl, rfl, hw2⟩ := open_int Tryd.underlying3 (hval 2 3 v2 rfl rfl) h2
  simp only [List.append_nil] at hW'
  refine (tells_w x0.f0 x0.f1 A0_2 c0_2 x0.f2 x1.f0 x1.f1 A1_2 c1_2 x1.f2 x2 (fun x hx => wf_u16 (hw0.2.2 x hx).2.2.2.2.2) (wf_i64 hw0.1) (wf_u64 hw0.2.1) hl0_2 hl1_2 W hC0_2 hC1_2 hT).mono fun e W' hpost => ?_
  obtain ⟨he, bel⟩ := hpost
  subst he
  exact ⟨_, rfl, _, _, _, [], _, [], hW', trodAll_mk1 (shut_bool Tryd.underlying4 _), (trodAll_cons_mk (Below.trod laidOut (by kernel_rfl) (of_decide_eq_true (by kernel_rfl)) k0_ bel lt0) (trodAll_cons_mk (Below.trod laidOut (by kernel_rfl) (of_decide_eq_true (by kernel_rfl)) k1_ bel lt1) (trodAll_cons_mk (shut_int Tryd.underlying3 hw2) trodAll_mk0))), rfl, bel.frame _, fun h => by cases h⟩
theorem over : Rows.logTellsRow.holds Tryd.pinned (OpenSpec.ofChange Rows.logTellsSpec) :=
  OpenClaim.holds_of_wide 6 Tryd.f6 rfl rfl rfl rfl rfl rfl rfl ⟨rfl, rfl, rfl, rfl, rfl⟩ rfl rfl rfl rfl rfl (by kernel_rfl) Tryd.func6 (by kernel_rfl)
    (of_decide_eq_true (by kernel_rfl)) (by unfold Func.isWrapper; first | (rw [if_pos (by decide +kernel)]; kernel_rfl) | (rw [if_neg (by decide +kernel)]; exact ⟨rfl, rfl⟩))
    (fun os started H enc _ => lifted os started H enc)
theorem proved : Rows.LogTellsSaid := over
theorem carded : Rows.LogTellsCardSaid :=
  Claim7.holds_tied_plain_at .later [] [.funcs] true (true, "d92289c7584925575299cbcc1649d6c99390def6620b67faacb8f4889c89f49c") false
    proved (fun _ h => by cases h) (by kernel_rfl) (fun _ h => by cases h) logTells_row_tie rfl ⟨rfl, rfl⟩ (by kernel_rfl) rfl
    (fun f fn hf hfn => by
      obtain rfl : f = 6 := Option.some.inj ((show Tryd.prog.funcNamed "wicketgate/wicketgatelaw27.LogTells" = some 6 by kernel_rfl).symm.trans hf) |>.symm
      obtain rfl : fn = Tryd.f6 := (Option.some.inj (Tryd.func6.symm.trans hfn)).symm
      exact ⟨by kernel_rfl, fun j t ht => by
        rw [Tryd.params6] at ht
        have hm : t ∈ [25, 25, 3] := by simpa using Array.mem_of_getElem? ht
        have hall : ([25, 25, 3].all fun u => !Tryd.prog.wantsStandIn u) = true := by kernel_rfl
        exact (show Tryd.prog.wantsStandIn t = false by simpa using List.all_eq_true.1 hall t hm)⟩)
    (by kernel_rfl)
#print axioms carded
end Go.Proofs.YtcpabgijmknldaaDoor.logTells
namespace Go.Proofs.YtcpabgijmknldaaDoor
/-- The statement, under a short name, for the claim. -/
theorem logTells_holds : Rows.LogTellsCardSaid := logTells.carded
end Go.Proofs.YtcpabgijmknldaaDoor
