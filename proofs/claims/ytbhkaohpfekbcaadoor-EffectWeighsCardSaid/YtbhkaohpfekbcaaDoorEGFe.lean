import Derived.Test.YtbhkaohpfekbcaaDoorPFex
namespace Go.Proofs.YtbhkaohpfekbcaaDoor.PFe
open Go.RowKit Go.Proofs.YtbhkaohpfekbcaaDoorW.PrintWords Go.Proofs.YtbhkaohpfekbcaaDoorW.PrintLast Go.Proofs.YtbhkaohpfekbcaaDoorW.PrintMore
open Go.Proofs.YtbhkaohpfekbcaaDoor.PE.L (Ef chkV crV retB rightV OfV OfE effV right_chk chkV_cases crV_cases waysV b2i efEq)
set_option linter.unusedVariables false
set_option linter.unusedSimpArgs false
theorem check_f (en : Int) (ru : Bool) (re : Int) (si : Bool) (co : Int) (lo : Bool) (as_ : Int) (hc0 : 0 ≤ co) (hc1 : co ≤ 65535) : effect_Check.f en ru re si co lo as_ = some (chkV ⟨en, ru, re, si, co, lo, as_⟩) := by unfold effect_Check.f; rw [if_pos ⟨hc0, hc1⟩]
theorem right_f (en : Int) (ru : Bool) (re : Int) (si : Bool) (co : Int) (lo : Bool) (as_ : Int) (hc0 : 0 ≤ co) (hc1 : co ≤ 65535) : wicketgateref21_Right.f en ru re si co lo as_ = some (decide (chkV ⟨en, ru, re, si, co, lo, as_⟩ = 0)) := by unfold wicketgateref21_Right.f; rw [right_chk _ hc0 hc1]
theorem wakes_f : wicketgatelaw21_wakes.f = some true := by decide +kernel
theorem weight_f (en : Int) (ru : Bool) (re : Int) (si : Bool) (co : Int) (lo : Bool) (as_ : Int) (hc0 : 0 ≤ co) (hc1 : co ≤ 65535) : effect_Weight.f en ru re si co lo as_ = (if chkV ⟨en, ru, re, si, co, lo, as_⟩ = 0 then (if en = 0 then (if si = true then (some 4) else (if as_ = 0 then (if ru = true then (if lo = true then (some 1) else (some 0)) else (some 3)) else (some 2))) else (some (wrap64 (4 + en)))) else (some (-1))) := by
  unfold effect_Weight.f
  rw [check_f en ru re si co lo as_ hc0 hc1]
  simp only [Option.bind_some]
theorem right_en (e : Ef) (h : rightV e = true) : 0 ≤ e.en ∧ e.en ≤ 2 := by
  unfold rightV at h
  split at h
  · omega
  · repeat (split at h; · cases h)
    simp at h
    omega
theorem EffectWeighs_p (en : Int) (ru : Bool) (re : Int) (si : Bool) (co : Int) (lo : Bool) (as_ : Int) (hc0 : 0 ≤ co) (hc1 : co ≤ 65535) : wicketgatelaw21_EffectWeighs.f 3 en ru re si co lo as_ = some true := by
  unfold wicketgatelaw21_EffectWeighs.f
  rw [wakes_f, right_f en ru re si co lo as_ hc0 hc1, weight_f en ru re si co lo as_ hc0 hc1]
  simp only [wicketgatelaw21_EffectWeighs.j0]
  rw [weight_f en ru re si co lo as_ hc0 hc1]
  rcases chkV_cases ⟨en, ru, re, si, co, lo, as_⟩ with hk | hk
  · have hr := right_en ⟨en, ru, re, si, co, lo, as_⟩ ((right_chk ⟨en, ru, re, si, co, lo, as_⟩ hc0 hc1).trans (by simp [hk]))
    have h6 : wrap64 6 = 6 := by unfold wrap64; omega
    have h5 : wrap64 5 = 5 := by unfold wrap64; omega
    obtain h | h | h : en = 0 ∨ en = 1 ∨ en = 2 := by simp only at hr; omega
    all_goals simp only [hk]
    all_goals clear hk
    all_goals by_cases ha : as_ = 0 <;> cases si <;> cases ru <;> cases lo <;> simp [h, ha, h6, h5]
  · simp [hk]
end Go.Proofs.YtbhkaohpfekbcaaDoor.PFe
