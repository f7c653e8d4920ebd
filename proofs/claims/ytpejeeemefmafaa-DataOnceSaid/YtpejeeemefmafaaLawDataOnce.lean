/- DataOnce: for all data, every offset and every word the law returns true and its arguments read as before; no condition. -/
import Derived.Test.YtpejeeemefmafaaRows
import Derived.Test.YtpejeeemefmafaaDO
import Derived.Test.YtpejeeemefmafaaOpen
import Derived.WalkKit
import Derived.ProofKit
import Derived.OpenShut
import Derived.ShutString
import Derived.ChangeOld
import Derived.Below
import Derived.SizedLaws
namespace Go.Proofs.Ytpejeeemefmafaa.dataOnce
open Go.ChangeShapes Go.WideShapes Go.ChangeAt Go.RowKit Go.Proofs.YtpejeeemefmafaaW.PrintWords Go.Proofs.YtpejeeemefmafaaW.PrintLast Go.Proofs.YtpejeeemefmafaaW.PrintMore Go.Proofs.Ytpejeeemefmafaa.Open Go.Proofs.Ytpejeeemefmafaa.RD
open Go.ChangeMaps (open_string shut_string)
set_option linter.unusedVariables false
set_option linter.unusedSimpArgs false
theorem own : ownKnob Try.prog.godebug = none := by kernel_rfl
theorem laidOut : laidOutB Try.prog = true := by kernel_rfl
structure S56 where
  f0 : Int
  f1 : Int
  f2 : Int
  f3 : Int
  f4 : Int
  f5 : Int
def k56 : Kd S56 := Kd.iso (Kd.pair (Kd.int .u64) (Kd.pair (Kd.int .u64) (Kd.pair (Kd.int .u64) (Kd.pair (Kd.int .u64) (Kd.pair (Kd.int .u64) (Kd.int .u64)))))) (fun x : S56 => (x.f0, x.f1, x.f2, x.f3, x.f4, x.f5))
def wf56 (x : S56) : Prop := (Lit.int .u64 x.f0).wf = true ∧ (Lit.int .u64 x.f1).wf = true ∧ (Lit.int .u64 x.f2).wf = true ∧ (Lit.int .u64 x.f3).wf = true ∧ (Lit.int .u64 x.f4).wf = true ∧ (Lit.int .u64 x.f5).wf = true
theorem opens56 : Opens Try.prog 56 k56 wf56 :=
  opens_iso (g := fun x => ((⟨x.1, x.2.1, x.2.2.1, x.2.2.2.1, x.2.2.2.2.1, x.2.2.2.2.2⟩ : S56))) (fun _ => rfl) (opens_array Try.underlying56 (by kernel_rfl) (fs := [⟨"", 26, 0, false, "", "", 0⟩, ⟨"", 26, 1, false, "", "", 0⟩, ⟨"", 26, 2, false, "", "", 0⟩, ⟨"", 26, 3, false, "", "", 0⟩, ⟨"", 26, 4, false, "", "", 0⟩, ⟨"", 26, 5, false, "", "", 0⟩]) (fun f hf => by simp only [List.mem_cons, List.not_mem_nil, or_false] at hf; rcases hf with rfl | rfl | rfl | rfl | rfl | rfl; exact ⟨0, by decide, by kernel_rfl, rfl⟩; exact ⟨1, by decide, by kernel_rfl, rfl⟩; exact ⟨2, by decide, by kernel_rfl, rfl⟩; exact ⟨3, by decide, by kernel_rfl, rfl⟩; exact ⟨4, by decide, by kernel_rfl, rfl⟩; exact ⟨5, by decide, by kernel_rfl, rfl⟩) (opens_fs_cons rfl (by kernel_rfl) (opens_int Try.underlying26) (opens_fs_cons rfl (by kernel_rfl) (opens_int Try.underlying26) (opens_fs_cons rfl (by kernel_rfl) (opens_int Try.underlying26) (opens_fs_cons rfl (by kernel_rfl) (opens_int Try.underlying26) (opens_fs_cons rfl (by kernel_rfl) (opens_int Try.underlying26) (opens_fs_one rfl (by kernel_rfl) (opens_int Try.underlying26))))))))

structure S58 where
  f0 : Int
  f1 : Int
  f2 : Int
  f3 : S56
def k58 : Kd S58 := Kd.iso (Kd.pair (Kd.int .u32) (Kd.pair (Kd.int .u32) (Kd.pair (Kd.int .u64) k56))) (fun x : S58 => (x.f0, x.f1, x.f2, x.f3))
def wf58 (x : S58) : Prop := (Lit.int .u32 x.f0).wf = true ∧ (Lit.int .u32 x.f1).wf = true ∧ (Lit.int .u64 x.f2).wf = true ∧ wf56 x.f3
theorem opens58 : Opens Try.prog 58 k58 wf58 :=
  opens_iso (g := fun x => ((⟨x.1, x.2.1, x.2.2.1, x.2.2.2⟩ : S58))) (fun _ => rfl) (opens_struct Try.underlying58 (by kernel_rfl) (opens_fs_cons rfl (by kernel_rfl) (opens_int Try.underlying33) (opens_fs_cons rfl (by kernel_rfl) (opens_int Try.underlying33) (opens_fs_cons rfl (by kernel_rfl) (opens_int Try.underlying26) (opens_fs_one rfl (by kernel_rfl) opens56)))))

structure S69 where
  f0 : Int
  f1 : Int
def k69 : Kd S69 := Kd.iso (Kd.pair (Kd.int .u32) (Kd.int .u32)) (fun x : S69 => (x.f0, x.f1))
def wf69 (x : S69) : Prop := (Lit.int .u32 x.f0).wf = true ∧ (Lit.int .u32 x.f1).wf = true
theorem opens69 : Opens Try.prog 69 k69 wf69 :=
  opens_iso (g := fun x => ((⟨x.1, x.2⟩ : S69))) (fun _ => rfl) (opens_array Try.underlying69 (by kernel_rfl) (fs := [⟨"", 33, 0, false, "", "", 0⟩, ⟨"", 33, 1, false, "", "", 0⟩]) (fun f hf => by simp only [List.mem_cons, List.not_mem_nil, or_false] at hf; rcases hf with rfl | rfl; exact ⟨0, by decide, by kernel_rfl, rfl⟩; exact ⟨1, by decide, by kernel_rfl, rfl⟩) (opens_fs_cons rfl (by kernel_rfl) (opens_int Try.underlying33) (opens_fs_one rfl (by kernel_rfl) (opens_int Try.underlying33))))

theorem Dt.Ok.of_wf {x0 x1 x2 x3 x4 x5 x6 x7 x8 : Int} (h0 : (Lit.int .u32 x0).wf = true) (h1 : (Lit.int .u32 x1).wf = true) (h2 : (Lit.int .u64 x2).wf = true) (h3 : (Lit.int .u64 x3).wf = true) (h4 : (Lit.int .u64 x4).wf = true) (h5 : (Lit.int .u64 x5).wf = true) (h6 : (Lit.int .u64 x6).wf = true) (h7 : (Lit.int .u64 x7).wf = true) (h8 : (Lit.int .u64 x8).wf = true) : Dt.Ok ⟨x0, x1, x2, x3, x4, x5, x6, x7, x8⟩ := by
  constructor
  · exact ⟨(wf_u32 h0).1, by have := (wf_u32 h0).2; show x0 < _; omega⟩
  · exact ⟨(wf_u32 h1).1, by have := (wf_u32 h1).2; show x1 < _; omega⟩
  · exact ⟨(wf_u64 h2).1, by have := (wf_u64 h2).2; show x2 < _; omega⟩
  · exact ⟨(wf_u64 h3).1, by have := (wf_u64 h3).2; show x3 < _; omega⟩
  · exact ⟨(wf_u64 h4).1, by have := (wf_u64 h4).2; show x4 < _; omega⟩
  · exact ⟨(wf_u64 h5).1, by have := (wf_u64 h5).2; show x5 < _; omega⟩
  · exact ⟨(wf_u64 h6).1, by have := (wf_u64 h6).2; show x6 < _; omega⟩
  · exact ⟨(wf_u64 h7).1, by have := (wf_u64 h7).2; show x7 < _; omega⟩
  · exact ⟨(wf_u64 h8).1, by have := (wf_u64 h8).2; show x8 < _; omega⟩
theorem u32R_of_wf {x : Int} (h : (Lit.int .u32 x).wf = true) : u32R x := ⟨(wf_u32 h).1, by have := (wf_u32 h).2; omega⟩

set_option maxRecDepth 100000 in
theorem lifted (os : Os) (started : os.Started) (H : Type) (enc : TypeId × Value → H) :
    ReturnsInHanded {} Try.checked os 13 .any (Rows.dataOnceSpec.pre6 enc Try.prog Try.f13 Rows.dataOnceRow.domain false) (Rows.dataOnceSpec.post enc Try.prog Try.f13 false true false false) := by
  refine returnsInHanded_of_change_sized (C := Try.checked) own started (by kernel_rfl) Try.func13
    (ChangeSpec.witness6 (enc := enc) (C := Try.checked) false ⟨#[], #[.agg #[.int .u32 0, .int .u32 0, .int .u64 0, .int .u64 0, .int .u64 0, .int .u64 0, .int .u64 0, .int .u64 0, .int .u64 0], .agg #[.int .u32 0, .int .u32 0, .int .u64 0, .int .u64 0, .int .u64 0, .int .u64 0, .int .u64 0, .int .u64 0, .int .u64 0], .agg #[.int .u32 0, .int .u32 0]], []⟩ 8 (by kernel_rfl) (by kernel_rfl) (by kernel_rfl) (by kernel_rfl)) ?_
  intro W base args ds gs before hval0 hW hcnd hsz0 _
  have hsz := hsz0
  have hval : ∀ (j : Nat) t v, Try.f13.params[j]? = some t → args[j]? = some v → Value.okWide Try.prog W .any base t v := hval0
  have hW' := hW
  obtain ⟨p, q, hA0, hV, rfl, hfz, hnd⟩ := hW
  have hA : DataW.TrodAll enc Try.prog W 0 (fun _ => true) true Try.f13.params.toList args.toList ds p := hA0
  rw [Try.params13] at hA hval
  obtain ⟨v0, vs0, d0, ds0, p0, q0, hargs, rfl, rfl, h0, r0⟩ := trodAll_cons hA
  obtain ⟨v1, vs1, d1, ds1, p1, q1, rfl, rfl, rfl, h1, r1⟩ := trodAll_cons r0
  obtain ⟨v2, vs2, d2, ds2, p2, q2, rfl, rfl, rfl, h2, r2⟩ := trodAll_cons r1
  obtain ⟨rfl, rfl, rfl⟩ := trodAll_nil r2
  obtain rfl : args = #[v0, v1, v2] := by cases args; simp_all
  obtain ⟨rfl, rfl⟩ := trodVars_none hV
  obtain ⟨cs0, rfl, _⟩ := okWide_struct Try.underlying58 (hval 0 58 v0 rfl rfl)
  have k0_ := h0
  have lt0 : ∀ x ∈ p0, x.block < W.heap.size := by obtain ⟨m, hm⟩ := k0_; exact DataW.trod_lt m _ _ _ hm
  obtain ⟨f0, hf0⟩ := h0
  obtain ⟨x0, hK0, hw0⟩ := opens58 _ _ _ _ _ _ _ _ _ hf0
  obtain ⟨cl0, hcl0⟩ : ∃ l, (Value.cells (.agg cs0)).toList = l := ⟨_, rfl⟩
  rw [hcl0] at hK0
  obtain ⟨_, _, rfl, rfl, ⟨_, _, rfl, rfl, ⟨_, _, rfl, rfl, ⟨_, _, rfl, rfl, ⟨_, _, rfl, rfl, ⟨_, _, rfl, rfl, ⟨_, _, rfl, rfl, ⟨_, _, rfl, rfl, rfl⟩⟩⟩⟩⟩⟩⟩⟩ := hK0
  obtain rfl : cs0 = #[.int .u32 x0.f0, .int .u32 x0.f1, .int .u64 x0.f2, .int .u64 x0.f3.f0, .int .u64 x0.f3.f1, .int .u64 x0.f3.f2, .int .u64 x0.f3.f3, .int .u64 x0.f3.f4, .int .u64 x0.f3.f5] := Array.toList_inj.1 (by simpa [Value.cells] using hcl0)
  obtain ⟨cs1, rfl, _⟩ := okWide_struct Try.underlying58 (hval 1 58 v1 rfl rfl)
  have k1_ := h1
  have lt1 : ∀ x ∈ p1, x.block < W.heap.size := by obtain ⟨m, hm⟩ := k1_; exact DataW.trod_lt m _ _ _ hm
  obtain ⟨f1, hf1⟩ := h1
  obtain ⟨x1, hK1, hw1⟩ := opens58 _ _ _ _ _ _ _ _ _ hf1
  obtain ⟨cl1, hcl1⟩ : ∃ l, (Value.cells (.agg cs1)).toList = l := ⟨_, rfl⟩
  rw [hcl1] at hK1
  obtain ⟨_, _, rfl, rfl, ⟨_, _, rfl, rfl, ⟨_, _, rfl, rfl, ⟨_, _, rfl, rfl, ⟨_, _, rfl, rfl, ⟨_, _, rfl, rfl, ⟨_, _, rfl, rfl, ⟨_, _, rfl, rfl, rfl⟩⟩⟩⟩⟩⟩⟩⟩ := hK1
  obtain rfl : cs1 = #[.int .u32 x1.f0, .int .u32 x1.f1, .int .u64 x1.f2, .int .u64 x1.f3.f0, .int .u64 x1.f3.f1, .int .u64 x1.f3.f2, .int .u64 x1.f3.f3, .int .u64 x1.f3.f4, .int .u64 x1.f3.f5] := Array.toList_inj.1 (by simpa [Value.cells] using hcl1)
  obtain ⟨cs2, rfl⟩ : ∃ cs, v2 = .agg cs := by have h_ := hval 2 69 v2 rfl rfl; simp only [Value.okWide, Try.underlying69] at h_; obtain ⟨cs, h1, _⟩ := h_; exact ⟨cs, h1⟩
  have k2_ := h2
  have lt2 : ∀ x ∈ p2, x.block < W.heap.size := by obtain ⟨m, hm⟩ := k2_; exact DataW.trod_lt m _ _ _ hm
  obtain ⟨f2, hf2⟩ := h2
  obtain ⟨x2, hK2, hw2⟩ := opens69 _ _ _ _ _ _ _ _ _ hf2
  obtain ⟨cl2, hcl2⟩ : ∃ l, (Value.cells (.agg cs2)).toList = l := ⟨_, rfl⟩
  rw [hcl2] at hK2
  obtain ⟨_, _, rfl, rfl, rfl⟩ := hK2
  obtain rfl : cs2 = #[.int .u32 x2.f0, .int .u32 x2.f1] := Array.toList_inj.1 (by simpa [Value.cells] using hcl2)
  refine (once_law ⟨x0.f0, x0.f1, x0.f2, x0.f3.f0, x0.f3.f1, x0.f3.f2, x0.f3.f3, x0.f3.f4, x0.f3.f5⟩ (Dt.Ok.of_wf hw0.1 hw0.2.1 hw0.2.2.1 hw0.2.2.2.1 hw0.2.2.2.2.1 hw0.2.2.2.2.2.1 hw0.2.2.2.2.2.2.1 hw0.2.2.2.2.2.2.2.1 hw0.2.2.2.2.2.2.2.2) ⟨x1.f0, x1.f1, x1.f2, x1.f3.f0, x1.f3.f1, x1.f3.f2, x1.f3.f3, x1.f3.f4, x1.f3.f5⟩ (Dt.Ok.of_wf hw1.1 hw1.2.1 hw1.2.2.1 hw1.2.2.2.1 hw1.2.2.2.2.1 hw1.2.2.2.2.2.1 hw1.2.2.2.2.2.2.1 hw1.2.2.2.2.2.2.2.1 hw1.2.2.2.2.2.2.2.2) x2.f0 (u32R_of_wf hw2.1) x2.f1 (u32R_of_wf hw2.2) W).mono fun e W' hpost => ?_
  obtain ⟨he, bel⟩ := hpost
  subst he
  exact ⟨_, rfl, _, _, _, [], _, [], hW', trodAll_mk1 (shut_bool Try.underlying4 _), (trodAll_cons_mk (Below.trod laidOut (by kernel_rfl) (of_decide_eq_true (by kernel_rfl)) k0_ bel lt0) (trodAll_cons_mk (Below.trod laidOut (by kernel_rfl) (of_decide_eq_true (by kernel_rfl)) k1_ bel lt1) (trodAll_cons_mk (Below.trod laidOut (by kernel_rfl) (of_decide_eq_true (by kernel_rfl)) k2_ bel lt2) trodAll_mk0))), rfl, bel.frame _, fun h => by cases h⟩
theorem over : Rows.dataOnceRow.holds Try.pinned (OpenSpec.ofChange Rows.dataOnceSpec) :=
  OpenClaim.holds_of_wide 13 Try.f13 rfl rfl rfl rfl rfl rfl rfl ⟨rfl, rfl, rfl, rfl, rfl⟩ rfl rfl rfl rfl rfl (by kernel_rfl) Try.func13 (by kernel_rfl)
    (of_decide_eq_true (by kernel_rfl)) (by unfold Func.isWrapper; first | (rw [if_pos (by decide +kernel)]; kernel_rfl) | (rw [if_neg (by decide +kernel)]; exact ⟨rfl, rfl⟩))
    (fun os started H enc _ => lifted os started H enc)
theorem proved : Rows.DataOnceSaid := over
#print axioms proved
end Go.Proofs.Ytpejeeemefmafaa.dataOnce
namespace Go.Proofs.Ytpejeeemefmafaa
/-- The statement, under a short name, for the claim. -/
theorem dataOnce_holds : Rows.DataOnceSaid := dataOnce.proved
end Go.Proofs.Ytpejeeemefmafaa
