/- NotifyTells: for every two desks, every cookie and every thread the law returns true and its arguments read as before; the table of the actions' effects lies as the program's text lays it, and the card ties it to that text. -/
import Derived.Test.YtcbiehinhmkjmaaDoorRows
import Derived.Test.YtcbiehinhmkjmaaDoorCards
import Derived.Test.YtcbiehinhmkjmaaDoorTie
import Derived.Test.YtcbiehinhmkjmaaDoorET
import Derived.Test.YtcbiehinhmkjmaaDoorNWx
import Derived.Test.YtcbiehinhmkjmaaDoorOpen
import Derived.WalkKit
import Derived.ProofKit
import Derived.OpenShut
import Derived.ShutString
import Derived.ChangeOld
import Derived.Below
import Derived.SizedLaws
import Derived.LaidMore
import Derived.LaidOnce
import Derived.SevenTiedAt
import Derived.Stop.Joined
import Derived.LaidHandle
namespace Go.Proofs.YtcbiehinhmkjmaaDoor.notifyTells
open Go.ChangeShapes Go.WideShapes Go.ChangeAt Go.RowKit Go.Proofs.YtcbiehinhmkjmaaDoorW.PrintWords Go.Proofs.YtcbiehinhmkjmaaDoorW.PrintLast Go.Proofs.YtcbiehinhmkjmaaDoorW.PrintMore Go.Proofs.YtcbiehinhmkjmaaDoor.Open Go.Proofs.YtcbiehinhmkjmaaDoor.PB Go.Proofs.YtcbiehinhmkjmaaDoor.NB
open Go.ChangeMaps (open_string shut_string)
set_option linter.unusedVariables false
set_option linter.unusedSimpArgs false
theorem own : ownKnob Tryd.prog.godebug = none := by kernel_rfl
theorem laidOut : laidOutB Tryd.prog = true := by kernel_rfl
def wf27 (x : S27) : Prop := (Lit.int .u64 x.f0).wf = true ∧ (Lit.int .u64 x.f1).wf = true ∧ (Lit.int .u64 x.f2).wf = true ∧ (Lit.int .u64 x.f3).wf = true ∧ (Lit.int .u64 x.f4).wf = true ∧ (Lit.int .u64 x.f5).wf = true
theorem opens27 : Opens Tryd.prog 27 k27 wf27 :=
  opens_iso (g := fun x => ((⟨x.1, x.2.1, x.2.2.1, x.2.2.2.1, x.2.2.2.2.1, x.2.2.2.2.2⟩ : S27))) (fun _ => rfl) (opens_array Tryd.underlying27 (by kernel_rfl) (fs := [⟨"", 22, 0, false, "", "", 0⟩, ⟨"", 22, 1, false, "", "", 0⟩, ⟨"", 22, 2, false, "", "", 0⟩, ⟨"", 22, 3, false, "", "", 0⟩, ⟨"", 22, 4, false, "", "", 0⟩, ⟨"", 22, 5, false, "", "", 0⟩]) (fun f hf => by simp only [List.mem_cons, List.not_mem_nil, or_false] at hf; rcases hf with rfl | rfl | rfl | rfl | rfl | rfl; exact ⟨0, by decide, by kernel_rfl, rfl⟩; exact ⟨1, by decide, by kernel_rfl, rfl⟩; exact ⟨2, by decide, by kernel_rfl, rfl⟩; exact ⟨3, by decide, by kernel_rfl, rfl⟩; exact ⟨4, by decide, by kernel_rfl, rfl⟩; exact ⟨5, by decide, by kernel_rfl, rfl⟩) (opens_fs_cons rfl (by kernel_rfl) (opens_int Tryd.underlying22) (opens_fs_cons rfl (by kernel_rfl) (opens_int Tryd.underlying22) (opens_fs_cons rfl (by kernel_rfl) (opens_int Tryd.underlying22) (opens_fs_cons rfl (by kernel_rfl) (opens_int Tryd.underlying22) (opens_fs_cons rfl (by kernel_rfl) (opens_int Tryd.underlying22) (opens_fs_one rfl (by kernel_rfl) (opens_int Tryd.underlying22))))))))

def wf29 (x : S29) : Prop := (Lit.int .u32 x.f0).wf = true ∧ (Lit.int .u32 x.f1).wf = true ∧ (Lit.int .u64 x.f2).wf = true ∧ wf27 x.f3
theorem opens29 : Opens Tryd.prog 29 k29 wf29 :=
  opens_iso (g := fun x => ((⟨x.1, x.2.1, x.2.2.1, x.2.2.2⟩ : S29))) (fun _ => rfl) (opens_struct Tryd.underlying29 (by kernel_rfl) (opens_fs_cons rfl (by kernel_rfl) (opens_int Tryd.underlying26) (opens_fs_cons rfl (by kernel_rfl) (opens_int Tryd.underlying26) (opens_fs_cons rfl (by kernel_rfl) (opens_int Tryd.underlying22) (opens_fs_one rfl (by kernel_rfl) opens27)))))

def wf36 (x : S36) : Prop := (Lit.int .u64 x.f0).wf = true ∧ (Lit.int .i64 x.f1).wf = true ∧ wf29 x.f2 ∧ True
theorem opens36 : Opens Tryd.prog 36 k36 wf36 :=
  opens_iso (g := fun x => ((⟨x.1, x.2.1, x.2.2.1, x.2.2.2⟩ : S36))) (fun _ => rfl) (opens_struct Tryd.underlying36 (by kernel_rfl) (opens_fs_cons rfl (by kernel_rfl) (opens_int Tryd.underlying22) (opens_fs_cons rfl (by kernel_rfl) (opens_int Tryd.underlying3) (opens_fs_cons rfl (by kernel_rfl) opens29 (opens_fs_one rfl (by kernel_rfl) (opens_bool Tryd.underlying4))))))

structure S25 where
  f0 : Int
  f1 : List (S36)
def k25 : Kd S25 := Kd.iso (Kd.pair (Kd.int .u64) (Kd.slice 36 k36)) (fun x : S25 => (x.f0, x.f1))
def wf25 (x : S25) : Prop := (Lit.int .u64 x.f0).wf = true ∧ (∀ y0 ∈ x.f1, wf36 y0)
theorem opens25 : Opens Tryd.prog 25 k25 wf25 :=
  opens_iso (g := fun x => ((⟨x.1, x.2⟩ : S25))) (fun _ => rfl) (opens_struct Tryd.underlying25 (by kernel_rfl) (opens_fs_cons rfl (by kernel_rfl) (opens_int Tryd.underlying22) (opens_fs_one rfl (by kernel_rfl) (opens_slice Tryd.underlying23 (by kernel_rfl) opens36))))

structure S64 where
  f0 : Int
  f1 : Int
def k64 : Kd S64 := Kd.iso (Kd.pair (Kd.int .u64) (Kd.int .u64)) (fun x : S64 => (x.f0, x.f1))
def wf64 (x : S64) : Prop := (Lit.int .u64 x.f0).wf = true ∧ (Lit.int .u64 x.f1).wf = true
theorem opens64 : Opens Tryd.prog 64 k64 wf64 :=
  opens_iso (g := fun x => ((⟨x.1, x.2⟩ : S64))) (fun _ => rfl) (opens_array Tryd.underlying64 (by kernel_rfl) (fs := [⟨"", 22, 0, false, "", "", 0⟩, ⟨"", 22, 1, false, "", "", 0⟩]) (fun f hf => by simp only [List.mem_cons, List.not_mem_nil, or_false] at hf; rcases hf with rfl | rfl; exact ⟨0, by decide, by kernel_rfl, rfl⟩; exact ⟨1, by decide, by kernel_rfl, rfl⟩) (opens_fs_cons rfl (by kernel_rfl) (opens_int Tryd.underlying22) (opens_fs_one rfl (by kernel_rfl) (opens_int Tryd.underlying22))))

set_option maxRecDepth 100000 in
theorem lifted (os : Os) (started : os.Started) (H : Type) (enc : TypeId × Value → H) :
    ReturnsInHanded {} Tryd.checked os 7 .any (fun w args => (Rows.notifyTellsSpec.pre enc Tryd.prog Tryd.f7 [] false w args ∧ laidMetH Tryd.prog Go.Proofs.YtcbiehinhmkjmaaDoor.PE.L.laidL w) ∧ sizedMet enc Tryd.prog Tryd.f7 (OpenSpec.ofChange Rows.notifyTellsSpec) false w args)
      (Rows.notifyTellsSpec.post enc Tryd.prog Tryd.f7 false true false false) := by
  refine returnsInHanded_of_change_and (C := Tryd.checked) (X := fun w _ => laidMetH Tryd.prog Go.Proofs.YtcbiehinhmkjmaaDoor.PE.L.laidL w) (fun _ _ _ hh h => h.of_heap hh) own started (by kernel_rfl) Tryd.func7
    (ChangeSpec.witness_shaped (enc := enc) (C := Tryd.checked) (os := os) (X := fun w _ => laidMetH Tryd.prog Go.Proofs.YtcbiehinhmkjmaaDoor.PE.L.laidL w) false (World.doorLaid Tryd.prog 14 os) #[.agg #[.int .u64 0, .slice none 0 0], .agg #[.int .u64 0, .slice none 0 0], .agg #[.int .u64 0, .int .u64 0]] 8 rfl (World.shaped_of_RefB (by kernel_rfl) (by kernel_rfl)) (by kernel_rfl) (by kernel_rfl) (by kernel_rfl) (Go.Proofs.YtcbiehinhmkjmaaDoor.PE.L.door_met os _)) ?_
  intro W base args ds gs before hval0 hW _ hsz0 hL _
  have hsz := hsz0
  have hT := Go.Proofs.YtcbiehinhmkjmaaDoor.PE.L.tab_of_laid hL
  have hval : ∀ (j : Nat) t v, Tryd.f7.params[j]? = some t → args[j]? = some v → Value.okWide Tryd.prog W .any base t v := hval0
  have hW' := hW
  obtain ⟨p, q, hA0, hV, rfl, hfz, hnd⟩ := hW
  have hA : DataW.TrodAll enc Tryd.prog W 0 (fun _ => true) true Tryd.f7.params.toList args.toList ds p := hA0
  rw [Tryd.params7] at hA hval
  obtain ⟨v0, vs0, d0, ds0, p0, q0, hargs, rfl, rfl, h0, r0⟩ := trodAll_cons hA
  obtain ⟨v1, vs1, d1, ds1, p1, q1, rfl, rfl, rfl, h1, r1⟩ := trodAll_cons r0
  obtain ⟨v2, vs2, d2, ds2, p2, q2, rfl, rfl, rfl, h2, r2⟩ := trodAll_cons r1
  obtain ⟨rfl, rfl, rfl⟩ := trodAll_nil r2
  obtain rfl : args = #[v0, v1, v2] := by cases args; simp_all
  obtain ⟨rfl, rfl⟩ := trodVars_none hV
  obtain ⟨cs0, rfl, _⟩ := okWide_struct Tryd.underlying25 (hval 0 25 v0 rfl rfl)
  have k0_ := h0
  have lt0 : ∀ x ∈ p0, x.block < W.heap.size := by obtain ⟨m, hm⟩ := k0_; exact DataW.trod_lt m _ _ _ hm
  obtain ⟨f0, hf0⟩ := h0
  obtain ⟨x0, hK0, hw0⟩ := opens25 _ _ _ _ _ _ _ _ _ hf0
  obtain ⟨cl0, hcl0⟩ : ∃ l, (Value.cells (.agg cs0)).toList = l := ⟨_, rfl⟩
  rw [hcl0] at hK0
  obtain ⟨_, _, rfl, rfl, ⟨A0_1, c0_1, rfl, hl0_1, hC0_1⟩⟩ := hK0
  obtain rfl : cs0 = #[.int .u64 x0.f0, .slice A0_1 x0.f1.length c0_1] := Array.toList_inj.1 (by simpa [Value.cells] using hcl0)
  obtain ⟨cs1, rfl, _⟩ := okWide_struct Tryd.underlying25 (hval 1 25 v1 rfl rfl)
  have k1_ := h1
  have lt1 : ∀ x ∈ p1, x.block < W.heap.size := by obtain ⟨m, hm⟩ := k1_; exact DataW.trod_lt m _ _ _ hm
  obtain ⟨f1, hf1⟩ := h1
  obtain ⟨x1, hK1, hw1⟩ := opens25 _ _ _ _ _ _ _ _ _ hf1
  obtain ⟨cl1, hcl1⟩ : ∃ l, (Value.cells (.agg cs1)).toList = l := ⟨_, rfl⟩
  rw [hcl1] at hK1
  obtain ⟨_, _, rfl, rfl, ⟨A1_1, c1_1, rfl, hl1_1, hC1_1⟩⟩ := hK1
  obtain rfl : cs1 = #[.int .u64 x1.f0, .slice A1_1 x1.f1.length c1_1] := Array.toList_inj.1 (by simpa [Value.cells] using hcl1)
  obtain ⟨cs2, rfl⟩ : ∃ cs, v2 = .agg cs := by have h_ := hval 2 64 v2 rfl rfl; simp only [Value.okWide, Tryd.underlying64] at h_; obtain ⟨cs, h1, _⟩ := h_; exact ⟨cs, h1⟩
  have k2_ := h2
  have lt2 : ∀ x ∈ p2, x.block < W.heap.size := by obtain ⟨m, hm⟩ := k2_; exact DataW.trod_lt m _ _ _ hm
  obtain ⟨f2, hf2⟩ := h2
  obtain ⟨x2, hK2, hw2⟩ := opens64 _ _ _ _ _ _ _ _ _ hf2
  obtain ⟨cl2, hcl2⟩ : ∃ l, (Value.cells (.agg cs2)).toList = l := ⟨_, rfl⟩
  rw [hcl2] at hK2
  obtain ⟨_, _, rfl, rfl, rfl⟩ := hK2
  obtain rfl : cs2 = #[.int .u64 x2.f0, .int .u64 x2.f1] := Array.toList_inj.1 (by simpa [Value.cells] using hcl2)
  simp only [List.append_nil] at hW'
  refine (tells_w x0.f0 A0_1 c0_1 x0.f1 x1.f0 A1_1 c1_1 x1.f1 x2.f0 x2.f1 hl0_1 hl1_1 W hC0_1 hC1_1 hT).mono fun e W' hpost => ?_
  obtain ⟨he, bel⟩ := hpost
  subst he
  exact ⟨_, rfl, _, _, _, [], _, [], hW', trodAll_mk1 (shut_bool Tryd.underlying4 _), (trodAll_cons_mk (Below.trod laidOut (by kernel_rfl) (of_decide_eq_true (by kernel_rfl)) k0_ bel lt0) (trodAll_cons_mk (Below.trod laidOut (by kernel_rfl) (of_decide_eq_true (by kernel_rfl)) k1_ bel lt1) (trodAll_cons_mk (Below.trod laidOut (by kernel_rfl) (of_decide_eq_true (by kernel_rfl)) k2_ bel lt2) trodAll_mk0))), rfl, bel.frame _, fun h => by cases h⟩
theorem over : Rows.notifyTellsRow.holds Tryd.pinned (OpenSpec.ofChange Rows.notifyTellsSpec) :=
  OpenClaim.holds_of_wide 7 Tryd.f7 rfl rfl rfl rfl rfl rfl rfl ⟨rfl, rfl, rfl, rfl, rfl⟩ rfl rfl rfl rfl rfl (by kernel_rfl) Tryd.func7 (by kernel_rfl)
    (of_decide_eq_true (by kernel_rfl)) (by unfold Func.isWrapper; first | (rw [if_pos (by decide +kernel)]; kernel_rfl) | (rw [if_neg (by decide +kernel)]; exact ⟨rfl, rfl⟩))
    (fun os started H enc _ => lifted os started H enc)
theorem proved : Rows.NotifyTellsSaid := over
theorem carded : Rows.NotifyTellsCardSaid :=
  Claim7.holds_tied_plain_at .later [] [.funcs] true (true, "66f34cd8a357d1dd11ddfe5c3bb32f2330e019ffaa22c9605ad3df412ec5c806") false
    proved (fun _ h => by cases h) (by kernel_rfl) (fun _ h => by cases h) notifyTells_row_tie rfl ⟨rfl, rfl⟩ (by kernel_rfl) rfl
    (fun f fn hf hfn => by
      obtain rfl : f = 7 := Option.some.inj ((show Tryd.prog.funcNamed "wicketgate/wicketgatelaw25.NotifyTells" = some 7 by kernel_rfl).symm.trans hf) |>.symm
      obtain rfl : fn = Tryd.f7 := (Option.some.inj (Tryd.func7.symm.trans hfn)).symm
      exact ⟨by kernel_rfl, fun j t ht => by
        rw [Tryd.params7] at ht
        have hm : t ∈ [25, 25, 64] := by simpa using Array.mem_of_getElem? ht
        have hall : ([25, 25, 64].all fun u => !Tryd.prog.wantsStandIn u) = true := by kernel_rfl
        exact (show Tryd.prog.wantsStandIn t = false by simpa using List.all_eq_true.1 hall t hm)⟩)
    (by kernel_rfl)
#print axioms carded
end Go.Proofs.YtcbiehinhmkjmaaDoor.notifyTells
namespace Go.Proofs.YtcbiehinhmkjmaaDoor
/-- The statement, under a short name, for the claim. -/
theorem notifyTells_holds : Rows.NotifyTellsCardSaid := notifyTells.carded
end Go.Proofs.YtcbiehinhmkjmaaDoor
