import Derived.Test.YtbhkaohpfekbcaaDoorPFdx
namespace Go.Proofs.YtbhkaohpfekbcaaDoor.PFd
open Go.RowKit Go.Proofs.YtbhkaohpfekbcaaDoorW.PrintWords Go.Proofs.YtbhkaohpfekbcaaDoorW.PrintLast Go.Proofs.YtbhkaohpfekbcaaDoorW.PrintMore
open Go.Proofs.YtbhkaohpfekbcaaDoor.PE.L (Ef chkV crV retB rightV OfV OfE effV right_chk chkV_cases crV_cases waysV b2i efEq)
set_option linter.unusedVariables false
set_option linter.unusedSimpArgs false
theorem of_f (a d : Int) (tr li : Bool) (h0 : 0 ≤ d) (h1 : d ≤ 65535) : effect_Of.f a d tr li = some ((OfV a d tr li).en, (OfV a d tr li).ru, (OfV a d tr li).re, (OfV a d tr li).si, (OfV a d tr li).co, (OfV a d tr li).lo, (OfV a d tr li).as_, OfE a) := by
  unfold effect_Of.f; rw [if_pos ⟨h0, h1⟩]
theorem check_f (en : Int) (ru : Bool) (re : Int) (si : Bool) (co : Int) (lo : Bool) (as_ : Int) (hc0 : 0 ≤ co) (hc1 : co ≤ 65535) : effect_Check.f en ru re si co lo as_ = some (chkV ⟨en, ru, re, si, co, lo, as_⟩) := by unfold effect_Check.f; rw [if_pos ⟨hc0, hc1⟩]
theorem ret_f (n : Int) : effect_ret.f n = some (retB n) := by
  unfold effect_ret.f retB
  by_cases h : n ≥ -4095
  · rw [if_pos h]; simp [h]
  · rw [if_neg h]; simp; omega
theorem cr_f (g : Bool) (n : Int) : effect_CheckReply.f g n = some (crV g n) := by
  unfold effect_CheckReply.f crV
  rw [ret_f]
  cases retB n <;> cases g <;> by_cases h : n = 0 <;> simp [h]
theorem wakes_f : wicketgatelaw21_wakes.f = some true := by decide +kernel
theorem behind_f (en : Int) (ru : Bool) (re : Int) (si : Bool) (co : Int) (lo : Bool) (as_ : Int) (g : Bool) (n : Int) (hc0 : 0 ≤ co) (hc1 : co ≤ 65535) : effect_Behind.f en ru re si co lo as_ g n = (if chkV ⟨en, ru, re, si, co, lo, as_⟩ = 0 then (if crV g n = 0 then (if as_ = 0 then some (0, false, 0, false, 0, false, 0, 4) else some (0, g, n, false, 0, false, 0, 0)) else some (0, false, 0, false, 0, false, 0, 310)) else some (0, false, 0, false, 0, false, 0, 311)) := by
  unfold effect_Behind.f
  rw [check_f en ru re si co lo as_ hc0 hc1, cr_f]
  simp only [Option.bind_some]
theorem settled_f (en : Int) (ru : Bool) (re : Int) (si : Bool) (co : Int) (lo : Bool) (as_ : Int) (hc0 : 0 ≤ co) (hc1 : co ≤ 65535) : effect_Settled.f en ru re si co lo as_ = some (decide (chkV ⟨en, ru, re, si, co, lo, as_⟩ = 0) && (as_ == 0)) := by
  unfold effect_Settled.f
  rw [check_f en ru re si co lo as_ hc0 hc1]
  rcases chkV_cases ⟨en, ru, re, si, co, lo, as_⟩ with hk | hk <;> simp [hk]
theorem chk_of (a d : Int) (tr li : Bool) (h0 : 0 ≤ d) (h1 : d ≤ 65535) (ha : 0 ≤ a ∧ a < 8) : chkV (OfV a d tr li) = 0 ∧ 0 ≤ (OfV a d tr li).co ∧ (OfV a d tr li).co ≤ 65535 := by
  unfold OfV
  rw [if_pos ha]
  have hc : 0 ≤ (effV a d tr li).co ∧ (effV a d tr li).co ≤ 65535 := by
    obtain rfl | rfl | rfl | rfl | rfl | rfl | rfl | rfl : a = 0 ∨ a = 1 ∨ a = 2 ∨ a = 3 ∨ a = 4 ∨ a = 5 ∨ a = 6 ∨ a = 7 := by omega
    all_goals cases tr <;> cases li <;> simp [effV] <;> omega
  refine ⟨?_, hc⟩
  have := right_chk (effV a d tr li) hc.1 hc.2
  have hr : rightV (effV a d tr li) = true := by
    obtain rfl | rfl | rfl | rfl | rfl | rfl | rfl | rfl : a = 0 ∨ a = 1 ∨ a = 2 ∨ a = 3 ∨ a = 4 ∨ a = 5 ∨ a = 6 ∨ a = 7 := by omega
    all_goals by_cases hd : d ≤ 4095 <;> cases tr <;> cases li <;> simp [effV, rightV, waysV, b2i, hd]
    all_goals first | done | omega
  rw [hr] at this
  exact of_decide_eq_true this.symm
theorem OfE_iff (a : Int) : OfE a = 0 ↔ (0 ≤ a ∧ a < 8) := by unfold OfE; split <;> simp_all
theorem loop_f (b0 b1 b2 b3 : Bool) (g : Bool) (n : Int) (en : Int) (ru : Bool) (re : Int) (si : Bool) (co : Int) (lo : Bool) (as_ : Int) :
    wicketgatelaw21_EffectOne.l0 10 0 [b0, b1, b2, b3] 4 0 g n en ru re si co lo as_ = wicketgatelaw21_EffectOne.j1 5 (if b2i b0 + b2i b1 + b2i b2 + b2i b3 > 1 then true else if b2i b0 + b2i b1 + b2i b2 + b2i b3 = 1 then re != 0 else false) g n en ru re si co lo as_ := by
  cases b0 <;> cases b1 <;> cases b2 <;> cases b3 <;> simp [wicketgatelaw21_EffectOne.l0, rdOf, wrap64, b2i]
theorem ret_chk (g : Bool) (n : Int) (hr : crV g n = 0) : chkV ⟨0, g, n, false, 0, false, 0⟩ = 0 := by
  have := right_chk ⟨0, g, n, false, 0, false, 0⟩ (by simp) (by simp)
  have hv : rightV ⟨0, g, n, false, 0, false, 0⟩ = true := by
    unfold crV retB at hr
    unfold rightV
    by_cases h : (-4095 ≤ n) <;> by_cases h' : n ≤ 2147483647 <;> by_cases hz : n = 0 <;> cases g <;> simp_all [waysV, b2i]
  rw [hv] at this
  exact of_decide_eq_true this.symm
theorem EffectOne_p (a d : Int) (tr li g : Bool) (n : Int) (h0 : 0 ≤ d) (h1 : d ≤ 65535) : wicketgatelaw21_EffectOne.f 10 a d tr li g n = some true := by
  unfold wicketgatelaw21_EffectOne.f
  rw [wakes_f, of_f a d tr li h0 h1]
  simp only [Option.bind_some, if_true]
  by_cases ha : 0 ≤ a ∧ a < 8
  · rw [if_pos ((OfE_iff a).2 ha)]
    obtain ⟨hk, hc0, hc1⟩ := chk_of a d tr li h0 h1 ha
    rw [check_f _ _ _ _ _ _ _ hc0 hc1]
    simp only [Option.bind_some]
    rw [if_pos hk]
    show wicketgatelaw21_EffectOne.l0 10 0 [_, _, _, _] 4 0 _ _ _ _ _ _ _ _ _ = some true
    rw [loop_f]
    have hw : (if b2i ((OfV a d tr li).en != 0) + b2i (OfV a d tr li).ru + b2i (OfV a d tr li).si + b2i ((OfV a d tr li).as_ != 0) > 1 then true else if b2i ((OfV a d tr li).en != 0) + b2i (OfV a d tr li).ru + b2i (OfV a d tr li).si + b2i ((OfV a d tr li).as_ != 0) = 1 then (OfV a d tr li).re != 0 else false) = false := by
      unfold OfV
      rw [if_pos ha]
      obtain rfl | rfl | rfl | rfl | rfl | rfl | rfl | rfl : a = 0 ∨ a = 1 ∨ a = 2 ∨ a = 3 ∨ a = 4 ∨ a = 5 ∨ a = 6 ∨ a = 7 := by omega
      all_goals cases tr <;> cases li <;> simp [effV, b2i]
    rw [hw]
    simp only [wicketgatelaw21_EffectOne.j1]
    rw [behind_f _ _ _ _ _ _ _ g n hc0 hc1, cr_f]
    have hk' : chkV ⟨(OfV a d tr li).en, (OfV a d tr li).ru, (OfV a d tr li).re, (OfV a d tr li).si, (OfV a d tr li).co, (OfV a d tr li).lo, (OfV a d tr li).as_⟩ = 0 := hk
    rw [if_pos hk']
    rcases crV_cases g n with hr | hr
    · by_cases hz : (OfV a d tr li).as_ = 0
      · simp [hr, hz]
      · have hs := settled_f 0 g n false 0 false 0 (by omega) (by omega)
        rw [ret_chk g n hr] at hs
        simp [hr, hz, hs]
    · by_cases hz : (OfV a d tr li).as_ = 0 <;> simp [hr, hz]
  · rw [if_neg (fun h => ha ((OfE_iff a).1 h))]
    by_cases h : a < 0
    · rw [if_pos h]
    · rw [if_neg h]; simp; omega
end Go.Proofs.YtbhkaohpfekbcaaDoor.PFd
