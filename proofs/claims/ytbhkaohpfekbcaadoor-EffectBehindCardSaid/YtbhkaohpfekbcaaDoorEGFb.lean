import Derived.Test.YtbhkaohpfekbcaaDoorPFbx
namespace Go.Proofs.YtbhkaohpfekbcaaDoor.PFb
open Go.RowKit Go.Proofs.YtbhkaohpfekbcaaDoorW.PrintWords Go.Proofs.YtbhkaohpfekbcaaDoorW.PrintLast Go.Proofs.YtbhkaohpfekbcaaDoorW.PrintMore
open Go.Proofs.YtbhkaohpfekbcaaDoor.PE.L (Ef chkV crV retB rightV OfV OfE effV right_chk chkV_cases crV_cases waysV b2i efEq)
set_option linter.unusedVariables false
set_option linter.unusedSimpArgs false
theorem check_f (en : Int) (ru : Bool) (re : Int) (si : Bool) (co : Int) (lo : Bool) (as_ : Int) (hc0 : 0 ≤ co) (hc1 : co ≤ 65535) : effect_Check.f en ru re si co lo as_ = some (chkV ⟨en, ru, re, si, co, lo, as_⟩) := by unfold effect_Check.f; rw [if_pos ⟨hc0, hc1⟩]
theorem right_f (en : Int) (ru : Bool) (re : Int) (si : Bool) (co : Int) (lo : Bool) (as_ : Int) (hc0 : 0 ≤ co) (hc1 : co ≤ 65535) : wicketgateref21_Right.f en ru re si co lo as_ = some (decide (chkV ⟨en, ru, re, si, co, lo, as_⟩ = 0)) := by unfold wicketgateref21_Right.f; rw [right_chk _ hc0 hc1]
theorem ret_f (n : Int) : effect_ret.f n = some (retB n) := by
  unfold effect_ret.f retB
  by_cases h : n ≥ -4095
  · rw [if_pos h]; simp [h]
  · rw [if_neg h]; simp; omega
theorem cr_f (g : Bool) (n : Int) : effect_CheckReply.f g n = some (crV g n) := by
  unfold effect_CheckReply.f crV
  rw [ret_f]
  cases retB n <;> cases g <;> by_cases h : n = 0 <;> simp [h]
theorem rr_f (g : Bool) (n : Int) : wicketgateref21_RightReply.f g n = some (decide (crV g n = 0)) := by
  unfold wicketgateref21_RightReply.f crV retB
  by_cases h : n ≥ -4095 <;> by_cases h' : n ≤ 2147483647 <;> by_cases hz : n = 0 <;> cases g <;> simp [h, h', hz]
  all_goals first | done | omega
theorem wakes_f : wicketgatelaw21_wakes.f = some true := by decide +kernel
theorem behind_f (en : Int) (ru : Bool) (re : Int) (si : Bool) (co : Int) (lo : Bool) (as_ : Int) (g : Bool) (n : Int) (hc0 : 0 ≤ co) (hc1 : co ≤ 65535) : effect_Behind.f en ru re si co lo as_ g n = (if chkV ⟨en, ru, re, si, co, lo, as_⟩ = 0 then (if crV g n = 0 then (if as_ = 0 then some (0, false, 0, false, 0, false, 0, 4) else some (0, g, n, false, 0, false, 0, 0)) else some (0, false, 0, false, 0, false, 0, 310)) else some (0, false, 0, false, 0, false, 0, 311)) := by
  unfold effect_Behind.f
  rw [check_f en ru re si co lo as_ hc0 hc1, cr_f]
  simp only [Option.bind_some]
theorem EffectBehind_p (en : Int) (ru : Bool) (re : Int) (si : Bool) (co : Int) (lo : Bool) (as_ : Int) (g : Bool) (n : Int) (hc0 : 0 ≤ co) (hc1 : co ≤ 65535) : wicketgatelaw21_EffectBehind.f en ru re si co lo as_ g n = some true := by
  unfold wicketgatelaw21_EffectBehind.f
  rw [wakes_f, behind_f en ru re si co lo as_ g n hc0 hc1, right_f en ru re si co lo as_ hc0 hc1, rr_f]
  obtain ⟨c, hc⟩ : ∃ c, chkV ⟨en, ru, re, si, co, lo, as_⟩ = c := ⟨_, rfl⟩
  have hk := chkV_cases ⟨en, ru, re, si, co, lo, as_⟩
  simp only [hc] at hk ⊢
  clear hc
  rcases hk with rfl | rfl <;> rcases crV_cases g n with hr | hr <;> by_cases ha : as_ = 0 <;> simp [hr, ha]
end Go.Proofs.YtbhkaohpfekbcaaDoor.PFb
