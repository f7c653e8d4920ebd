import Derived.Test.YtbhkaohpfekbcaaDoorPFfx
namespace Go.Proofs.YtbhkaohpfekbcaaDoor.PFf
open Go.RowKit Go.Proofs.YtbhkaohpfekbcaaDoorW.PrintWords Go.Proofs.YtbhkaohpfekbcaaDoorW.PrintLast Go.Proofs.YtbhkaohpfekbcaaDoorW.PrintMore
open Go.Proofs.YtbhkaohpfekbcaaDoor.PE.L (Ef chkV crV retB rightV OfV OfE effV right_chk chkV_cases crV_cases waysV b2i efEq)
set_option linter.unusedVariables false
set_option linter.unusedSimpArgs false
theorem of_f (a d : Int) (tr li : Bool) (h0 : 0 ≤ d) (h1 : d ≤ 65535) : effect_Of.f a d tr li = some ((OfV a d tr li).en, (OfV a d tr li).ru, (OfV a d tr li).re, (OfV a d tr li).si, (OfV a d tr li).co, (OfV a d tr li).lo, (OfV a d tr li).as_, OfE a) := by
  unfold effect_Of.f; rw [if_pos ⟨h0, h1⟩]
theorem check_f (en : Int) (ru : Bool) (re : Int) (si : Bool) (co : Int) (lo : Bool) (as_ : Int) (hc0 : 0 ≤ co) (hc1 : co ≤ 65535) : effect_Check.f en ru re si co lo as_ = some (chkV ⟨en, ru, re, si, co, lo, as_⟩) := by unfold effect_Check.f; rw [if_pos ⟨hc0, hc1⟩]
theorem wakes_f : wicketgatelaw21_wakes.f = some true := by decide +kernel
theorem weight_f (en : Int) (ru : Bool) (re : Int) (si : Bool) (co : Int) (lo : Bool) (as_ : Int) (hc0 : 0 ≤ co) (hc1 : co ≤ 65535) : effect_Weight.f en ru re si co lo as_ = (if chkV ⟨en, ru, re, si, co, lo, as_⟩ = 0 then (if en = 0 then (if si = true then (some 4) else (if as_ = 0 then (if ru = true then (if lo = true then (some 1) else (some 0)) else (some 3)) else (some 2))) else (some (wrap64 (4 + en)))) else (some (-1))) := by
  unfold effect_Weight.f
  rw [check_f en ru re si co lo as_ hc0 hc1]
  simp only [Option.bind_some]
theorem chk_of (a d : Int) (tr li : Bool) (h0 : 0 ≤ d) (h1 : d ≤ 65535) (ha : 0 ≤ a ∧ a < 8) : chkV (OfV a d tr li) = 0 ∧ 0 ≤ (OfV a d tr li).co ∧ (OfV a d tr li).co ≤ 65535 := by
  unfold OfV
  rw [if_pos ha]
  have hc : 0 ≤ (effV a d tr li).co ∧ (effV a d tr li).co ≤ 65535 := by
    obtain rfl | rfl | rfl | rfl | rfl | rfl | rfl | rfl : a = 0 ∨ a = 1 ∨ a = 2 ∨ a = 3 ∨ a = 4 ∨ a = 5 ∨ a = 6 ∨ a = 7 := by omega
    all_goals cases tr <;> cases li <;> simp [effV] <;> omega
  refine ⟨?_, hc⟩
  have := right_chk (effV a d tr li) hc.1 hc.2
  have hr : rightV (effV a d tr li) = true := by
    obtain rfl | rfl | rfl | rfl | rfl | rfl | rfl | rfl : a = 0 ∨ a = 1 ∨ a = 2 ∨ a = 3 ∨ a = 4 ∨ a = 5 ∨ a = 6 ∨ a = 7 := by omega
    all_goals by_cases hd : d ≤ 4095 <;> cases tr <;> cases li <;> simp [effV, rightV, waysV, b2i, hd]
    all_goals first | done | omega
  rw [hr] at this
  exact of_decide_eq_true this.symm
theorem OfE_iff (a : Int) : OfE a = 0 ↔ (0 ≤ a ∧ a < 8) := by unfold OfE; split <;> simp_all
def wtV (a : Int) : Int := if a = 0 then 6 else if a = 1 then 5 else if a = 2 then 4 else if a = 3 then 3 else if a = 4 then 2 else if a = 5 then 2 else if a = 6 then 1 else 0
theorem weight_of (a d : Int) (h0 : 0 ≤ d) (h1 : d ≤ 65535) (ha : 0 ≤ a ∧ a < 8) : effect_Weight.f (OfV a d true true).en (OfV a d true true).ru (OfV a d true true).re (OfV a d true true).si (OfV a d true true).co (OfV a d true true).lo (OfV a d true true).as_ = some (wtV a) := by
  obtain ⟨hk, hc0, hc1⟩ := chk_of a d true true h0 h1 ha
  have hk' : chkV ⟨(OfV a d true true).en, (OfV a d true true).ru, (OfV a d true true).re, (OfV a d true true).si, (OfV a d true true).co, (OfV a d true true).lo, (OfV a d true true).as_⟩ = 0 := hk
  rw [weight_f _ _ _ _ _ _ _ hc0 hc1, if_pos hk']
  have h6 : wrap64 6 = 6 := by unfold wrap64; omega
  have h5 : wrap64 5 = 5 := by unfold wrap64; omega
  unfold OfV
  rw [if_pos ha]
  obtain rfl | rfl | rfl | rfl | rfl | rfl | rfl | rfl : a = 0 ∨ a = 1 ∨ a = 2 ∨ a = 3 ∨ a = 4 ∨ a = 5 ∨ a = 6 ∨ a = 7 := by omega
  all_goals simp [effV, wtV, h6, h5]
theorem EffectRanks_p (a d b f : Int) (h0 : 0 ≤ d) (h1 : d ≤ 65535) (g0 : 0 ≤ f) (g1 : f ≤ 65535) : wicketgatelaw21_EffectRanks.f 3 a d b f = some true := by
  unfold wicketgatelaw21_EffectRanks.f
  rw [wakes_f, of_f a d true true h0 h1, of_f b f true true g0 g1]
  simp only [Option.bind_some, if_true]
  by_cases ha : 0 ≤ a ∧ a < 8
  · rw [if_pos ((OfE_iff a).2 ha)]
    simp only [wicketgatelaw21_EffectRanks.j0]
    by_cases hb : 0 ≤ b ∧ b < 8
    · rw [weight_of a d h0 h1 ha, weight_of b f g0 g1 hb]
      have hz := (OfE_iff b).2 hb
      simp only [hz, Option.bind_some]
      have hm : a > b → wtV a ≤ wtV b := by
        intro h; unfold wtV
        obtain rfl | rfl | rfl | rfl | rfl | rfl | rfl | rfl : a = 0 ∨ a = 1 ∨ a = 2 ∨ a = 3 ∨ a = 4 ∨ a = 5 ∨ a = 6 ∨ a = 7 := by omega
        all_goals obtain rfl | rfl | rfl | rfl | rfl | rfl | rfl | rfl : b = 0 ∨ b = 1 ∨ b = 2 ∨ b = 3 ∨ b = 4 ∨ b = 5 ∨ b = 6 ∨ b = 7 := by omega
        all_goals first | omega | simp
      have hn : a < b → wtV b ≤ wtV a := by
        intro h; unfold wtV
        obtain rfl | rfl | rfl | rfl | rfl | rfl | rfl | rfl : a = 0 ∨ a = 1 ∨ a = 2 ∨ a = 3 ∨ a = 4 ∨ a = 5 ∨ a = 6 ∨ a = 7 := by omega
        all_goals obtain rfl | rfl | rfl | rfl | rfl | rfl | rfl | rfl : b = 0 ∨ b = 1 ∨ b = 2 ∨ b = 3 ∨ b = 4 ∨ b = 5 ∨ b = 6 ∨ b = 7 := by omega
        all_goals first | omega | simp
      obtain h | h | h : a > b ∨ a = b ∨ a < b := by omega
      · have h' : ¬ a < b := by omega
        simp [h, h', hm h]
      · subst h
        simp
      · have h' : ¬ a > b := by omega
        simp [h, h', hn h]
    · have hz : (OfE b != 0) = true := by simp [OfE_iff]; omega
      simp [hz]
  · rw [if_neg (fun h => ha ((OfE_iff a).1 h))]
    simp [wicketgatelaw21_EffectRanks.j0]
end Go.Proofs.YtbhkaohpfekbcaaDoor.PFf
