import Derived.Test.YtbhkaohpfekbcaaDoorPFax
namespace Go.Proofs.YtbhkaohpfekbcaaDoor.PFa
open Go.RowKit Go.Proofs.YtbhkaohpfekbcaaDoorW.PrintWords Go.Proofs.YtbhkaohpfekbcaaDoorW.PrintLast Go.Proofs.YtbhkaohpfekbcaaDoorW.PrintMore
open Go.Proofs.YtbhkaohpfekbcaaDoor.PE.L (Ef chkV crV retB rightV OfV OfE effV right_chk chkV_cases crV_cases waysV b2i efEq)
set_option linter.unusedVariables false
set_option linter.unusedSimpArgs false
theorem of_f (a d : Int) (tr li : Bool) (h0 : 0 ≤ d) (h1 : d ≤ 65535) : effect_Of.f a d tr li = some ((OfV a d tr li).en, (OfV a d tr li).ru, (OfV a d tr li).re, (OfV a d tr li).si, (OfV a d tr li).co, (OfV a d tr li).lo, (OfV a d tr li).as_, OfE a) := by
  unfold effect_Of.f; rw [if_pos ⟨h0, h1⟩]
theorem wakes_f : wicketgatelaw21_wakes.f = some true := by decide +kernel
theorem refof_f (a d : Int) (tr li : Bool) (h0 : 0 ≤ d) (h1 : d ≤ 65535) : wicketgateref21_Of.f a d tr li = some ((OfV a d tr li).en, (OfV a d tr li).ru, (OfV a d tr li).re, (OfV a d tr li).si, (OfV a d tr li).co, (OfV a d tr li).lo, (OfV a d tr li).as_, OfE a) := by
  have hw : wrap64 d = d := by unfold wrap64; omega
  have hn : wrap64 (-d) = -d := by unfold wrap64; omega
  unfold wicketgateref21_Of.f OfV OfE
  by_cases h : 0 ≤ a ∧ a < 8
  · obtain rfl | rfl | rfl | rfl | rfl | rfl | rfl | rfl : a = 0 ∨ a = 1 ∨ a = 2 ∨ a = 3 ∨ a = 4 ∨ a = 5 ∨ a = 6 ∨ a = 7 := by omega
    all_goals by_cases hd : d ≤ 4095 <;> cases tr <;> cases li <;> simp [effV, hw, hn, hd]
    all_goals first | done | omega
  · rw [if_neg h, if_neg h]
    have : a ≠ 0 ∧ a ≠ 1 ∧ a ≠ 2 ∧ a ≠ 3 ∧ a ≠ 4 ∧ a ≠ 5 ∧ a ≠ 6 ∧ a ≠ 7 := by omega
    obtain ⟨z0, z1, z2, z3, z4, z5, z6, z7⟩ := this
    simp [z0, z1, z2, z3, z4, z5, z6, z7]
theorem EffectOf_p (a d : Int) (tr li : Bool) (h0 : 0 ≤ d) (h1 : d ≤ 65535) : wicketgatelaw21_EffectOf.f a d tr li = some true := by
  unfold wicketgatelaw21_EffectOf.f
  rw [wakes_f, of_f a d tr li h0 h1, refof_f a d tr li h0 h1]
  simp
end Go.Proofs.YtbhkaohpfekbcaaDoor.PFa
