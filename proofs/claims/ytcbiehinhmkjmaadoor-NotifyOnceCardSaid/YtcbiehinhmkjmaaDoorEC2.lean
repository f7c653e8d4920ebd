import Derived.Test.YtcbiehinhmkjmaaDoorEC0
namespace Go.Proofs.YtcbiehinhmkjmaaDoor.PE
open Go.RowKit Go.Proofs.YtcbiehinhmkjmaaDoorW.PrintWords Go.Proofs.YtcbiehinhmkjmaaDoorW.PrintLast Go.Proofs.YtcbiehinhmkjmaaDoorW.PrintMore
set_option linter.unusedVariables false
set_option linter.unusedSimpArgs false
namespace L
attribute [local go_sem high] eqE45

set_option maxHeartbeats 4000000 in
theorem Check_loop_true (en : Int) (ru : Bool) (re : Int) (si : Bool) (co : Int) (lo : Bool) (as_ : Int) (w : World) (hc0 : 0 ≤ co) (hc1 : co ≤ 65535) (hT : Tab w) (hr : Aside0 (retB re = true)) (he : efEq ⟨en, ru, re, si, co, lo, as_⟩ ⟨0, false, re, false, 0, false, 0⟩ = false) :
  Calls Tryd.prog 47 #[.agg #[.int .i64 en, .bool ru, .int .i64 re, .bool si, .int .u16 co, .bool lo, .int .i64 as_]] w (RetI (chkI (anyE ⟨en, ru, re, si, co, lo, as_⟩)) w) := by
 have HT := Aside0.mk hT
 clear hT
 go_enter Tryd.func47, Tryd.ntmps47
 go_wp2_with fail
 go_step3
 go_wp2_with fail
 refine (ret_w _ _ hr.out _).mono ?_
 rintro e w1 ⟨rfl, hb⟩
 obtain ⟨hk_e, hB⟩ := boxes1 hb
 clear hb
 have hc_e := blk_cell hk_e.out; have hf_e := blk_frozen hk_e.out; have hl_e := blk_lt hk_e.out
 have HB := Aside0.mk hB; clear hB
 go_wp2_with fail
 go_step3
 have hg := (HT.out.below HB.out).cell
 go_wp2_with fail
 clear he hc_e hf_e hl_e
 go_loopw [3, 19] (fun o i wr => ∃ k : Nat, k ≤ 8 ∧ o = .bool false ∧ i = .int .i64 k ∧ Aside0 (noneE ⟨en, ru, re, si, co, lo, as_⟩ k) ∧ Aside0 (Below w1.heap.size w1 wr)) (fun _ i _ => 8 - (intOf i).toNat)
 case atStart => exact ⟨0, by omega, rfl, rfl, ⟨fun j hj => absurd hj (by omega)⟩, ⟨Below.refl _ _⟩⟩
 case round =>
  obtain ⟨k, hk, rfl, rfl, HN, HBr⟩ := hrel
  have BE := Aside0.mk ((HBr.out.block _ (blk_lt hk_e.out)).trans hk_e.out)
  have hc_e := blk_cell BE.out; have hf_e := blk_frozen BE.out; have hl_e := blk_lt BE.out
  by_cases h8 : k < 8
  ·obtain rfl | rfl | rfl | rfl | rfl | rfl | rfl | rfl : k = 0 ∨ k = 1 ∨ k = 2 ∨ k = 3 ∨ k = 4 ∨ k = 5 ∨ k = 6 ∨ k = 7 := by omega
   ·have i0 : ∀ wz, (Instr.index 96 (.agg #[.func (.func 88) #[] #[], .func (.func 89) #[] #[], .func (.func 90) #[] #[], .func (.func 91) #[] #[], .func (.func 92) #[] #[], .func (.func 94) #[] #[], .func (.func 95) #[] #[], .func (.func 96) #[] #[]]) (.int .i64 0)).run Tryd.prog wz = .ok (.func (.func 88) #[] #[]) wz := fun _ => by kernel_rfl
    obtain ⟨wo, rfl⟩ : ∃ wo : World, wo = wr := ⟨_, rfl⟩
    go_wp2_with fail
    clear hc_e hf_e hl_e i0
    go_loopw [3, 26] (fun o i wx => ∃ j : Nat, j ≤ 2 ∧ o = .bool false ∧ i = .int .i64 j ∧ innerN ⟨en, ru, re, si, co, lo, as_⟩ 0 j ∧ Aside0 (Below (wo.alloc (.cells #[.int .u16 0, .int .u16 co] 43)).heap.size (wo.alloc (.cells #[.int .u16 0, .int .u16 co] 43)) wx)) (fun _ i _ => 2 - (intOf i).toNat)
    case atStart => exact ⟨0, by omega, rfl, rfl, ⟨fun h => absurd h (by omega), fun h => absurd h (by omega)⟩, ⟨Below.refl _ _⟩⟩
    case round =>
     obtain ⟨j, hj, rfl, rfl, HI, HBx⟩ := hrel
     obtain ⟨hk_s, hBx⟩ := boxes1 HBx.out
     have BX := Aside0.mk ((hBx.block _ (blk_lt BE.out)).trans BE.out)
     have HBw := HB.out.trans ((HBr.out.trans (hBx.mono HBr.out.size)).mono HB.out.size)
     clear hBx
     have hc_e := blk_cell BX.out; have hf_e := blk_frozen BX.out; have hl_e := blk_lt BX.out
     have hc_s := blk_cell hk_s.out; have hf_s := blk_frozen hk_s.out; have hl_s := blk_lt hk_s.out
     obtain rfl | rfl | rfl : j = 0 ∨ j = 1 ∨ j = 2 := by omega
     ·have hxs := hc_s 0
      simp only [List.getElem?_toArray, List.getElem?_cons_zero, List.getElem?_cons_succ] at hxs
      have hx0 := hc_e 0; have hx1 := hc_e 1; have hx2 := hc_e 2; have hx3 := hc_e 3; have hx4 := hc_e 4; have hx5 := hc_e 5; have hx6 := hc_e 6
      simp only [List.getElem?_toArray, List.getElem?_cons_zero, List.getElem?_cons_succ] at hx0 hx1 hx2 hx3 hx4 hx5 hx6
      clear hc_e hc_s hf_e hf_s
      cases hq : efEq (effV 0 0 true true) ⟨en, ru, re, si, co, lo, as_⟩
      all_goals have hq' : efEq ⟨(effV 0 0 true true).en, (effV 0 0 true true).ru, (effV 0 0 true true).re, (effV 0 0 true true).si, (effV 0 0 true true).co, (effV 0 0 true true).lo, (effV 0 0 true true).as_⟩ ⟨en, ru, re, si, co, lo, as_⟩ = _ := hq
      all_goals have HQ := Aside0.mk hq
      all_goals clear hq
      all_goals go_wp2_with fail
      all_goals go_region_held3 (fun w' => w'.cell? ⟨w.heap.size, 0, none⟩ = some (.int .i64 en) ∧ w'.cell? ⟨w.heap.size, 1, none⟩ = some (.bool ru) ∧ w'.cell? ⟨w.heap.size, 2, none⟩ = some (.int .i64 re) ∧ w'.cell? ⟨w.heap.size, 3, none⟩ = some (.bool si) ∧ w'.cell? ⟨w.heap.size, 4, none⟩ = some (.int .u16 co) ∧ w'.cell? ⟨w.heap.size, 5, none⟩ = some (.bool lo) ∧ w'.cell? ⟨w.heap.size, 6, none⟩ = some (.int .i64 as_) ∧ Below w.heap.size w w')
       ((first | (simp [*]; exact below_drew' HBw) | (go_split_ands; repeat' apply And.intro) <;> (first | exact pw_cell_below hb (by assumption) | exact Below.trans (by assumption) (hb.mono (Below.size (by assumption))))))
       ((go_at_call 88; refine (eff0V 0 _ _ _).mono ?_; rintro e w5 ⟨rfl, hb⟩))
      all_goals go_wp2_with fail
      ·go_roundw
       case rel => first | exact ⟨1, by omega, rfl, rfl, ⟨fun _ => HQ.out, fun h => absurd h (by omega)⟩, ⟨HBx.out.trans ((below_undrew hb).mono HBx.out.size)⟩⟩ | ((repeat apply Exists.intro); exact ⟨⟨1, by omega, rfl, rfl, ⟨fun _ => HQ.out, fun h => absurd h (by omega)⟩, ⟨HBx.out.trans ((below_undrew hb).mono HBx.out.size)⟩⟩, rfl⟩)
       case measure => simp [intOf]
      ·rw [Exit.noGoto_ret]
       go_ret
       go_split_ands
       exact ⟨by rw [any_some (k := 0) (by omega) (.inl HQ.out)]; rfl, by assumption⟩
     ·have hxs := hc_s 1
      simp only [List.getElem?_toArray, List.getElem?_cons_zero, List.getElem?_cons_succ] at hxs
      have hx0 := hc_e 0; have hx1 := hc_e 1; have hx2 := hc_e 2; have hx3 := hc_e 3; have hx4 := hc_e 4; have hx5 := hc_e 5; have hx6 := hc_e 6
      simp only [List.getElem?_toArray, List.getElem?_cons_zero, List.getElem?_cons_succ] at hx0 hx1 hx2 hx3 hx4 hx5 hx6
      clear hc_e hc_s hf_e hf_s
      cases hq : efEq (effV 0 co true true) ⟨en, ru, re, si, co, lo, as_⟩
      all_goals have hq' : efEq ⟨(effV 0 co true true).en, (effV 0 co true true).ru, (effV 0 co true true).re, (effV 0 co true true).si, (effV 0 co true true).co, (effV 0 co true true).lo, (effV 0 co true true).as_⟩ ⟨en, ru, re, si, co, lo, as_⟩ = _ := hq
      all_goals have HQ := Aside0.mk hq
      all_goals clear hq
      all_goals go_wp2_with fail
      all_goals go_region_held3 (fun w' => w'.cell? ⟨w.heap.size, 0, none⟩ = some (.int .i64 en) ∧ w'.cell? ⟨w.heap.size, 1, none⟩ = some (.bool ru) ∧ w'.cell? ⟨w.heap.size, 2, none⟩ = some (.int .i64 re) ∧ w'.cell? ⟨w.heap.size, 3, none⟩ = some (.bool si) ∧ w'.cell? ⟨w.heap.size, 4, none⟩ = some (.int .u16 co) ∧ w'.cell? ⟨w.heap.size, 5, none⟩ = some (.bool lo) ∧ w'.cell? ⟨w.heap.size, 6, none⟩ = some (.int .i64 as_) ∧ Below w.heap.size w w')
       ((first | (simp [*]; exact below_drew' HBw) | (go_split_ands; repeat' apply And.intro) <;> (first | exact pw_cell_below hb (by assumption) | exact Below.trans (by assumption) (hb.mono (Below.size (by assumption))))))
       ((go_at_call 88; refine (eff0V co _ _ _).mono ?_; rintro e w5 ⟨rfl, hb⟩))
      all_goals go_wp2_with fail
      ·go_roundw
       case rel => first | exact ⟨2, by omega, rfl, rfl, ⟨fun _ => HI.1 (by omega), fun _ => HQ.out⟩, ⟨HBx.out.trans ((below_undrew hb).mono HBx.out.size)⟩⟩ | ((repeat apply Exists.intro); exact ⟨⟨2, by omega, rfl, rfl, ⟨fun _ => HI.1 (by omega), fun _ => HQ.out⟩, ⟨HBx.out.trans ((below_undrew hb).mono HBx.out.size)⟩⟩, rfl⟩)
       case measure => simp [intOf]
      ·rw [Exit.noGoto_ret]
       go_ret
       go_split_ands
       exact ⟨by rw [any_some (k := 0) (by omega) (.inr HQ.out)]; rfl, by assumption⟩
     ·go_wp2_with fail
      go_roundw
      case rel => exact ⟨1, by omega, rfl, rfl, ⟨none_step HN.out HI⟩, ⟨HBr.out.trans (((boxes1 HBx.out).2).mono HBr.out.size)⟩⟩
      case measure => simp [intOf]
   ·have i0 : ∀ wz, (Instr.index 96 (.agg #[.func (.func 88) #[] #[], .func (.func 89) #[] #[], .func (.func 90) #[] #[], .func (.func 91) #[] #[], .func (.func 92) #[] #[], .func (.func 94) #[] #[], .func (.func 95) #[] #[], .func (.func 96) #[] #[]]) (.int .i64 1)).run Tryd.prog wz = .ok (.func (.func 89) #[] #[]) wz := fun _ => by kernel_rfl
    obtain ⟨wo, rfl⟩ : ∃ wo : World, wo = wr := ⟨_, rfl⟩
    go_wp2_with fail
    clear hc_e hf_e hl_e i0
    go_loopw [3, 26] (fun o i wx => ∃ j : Nat, j ≤ 2 ∧ o = .bool false ∧ i = .int .i64 j ∧ innerN ⟨en, ru, re, si, co, lo, as_⟩ 1 j ∧ Aside0 (Below (wo.alloc (.cells #[.int .u16 0, .int .u16 co] 43)).heap.size (wo.alloc (.cells #[.int .u16 0, .int .u16 co] 43)) wx)) (fun _ i _ => 2 - (intOf i).toNat)
    case atStart => exact ⟨0, by omega, rfl, rfl, ⟨fun h => absurd h (by omega), fun h => absurd h (by omega)⟩, ⟨Below.refl _ _⟩⟩
    case round =>
     obtain ⟨j, hj, rfl, rfl, HI, HBx⟩ := hrel
     obtain ⟨hk_s, hBx⟩ := boxes1 HBx.out
     have BX := Aside0.mk ((hBx.block _ (blk_lt BE.out)).trans BE.out)
     have HBw := HB.out.trans ((HBr.out.trans (hBx.mono HBr.out.size)).mono HB.out.size)
     clear hBx
     have hc_e := blk_cell BX.out; have hf_e := blk_frozen BX.out; have hl_e := blk_lt BX.out
     have hc_s := blk_cell hk_s.out; have hf_s := blk_frozen hk_s.out; have hl_s := blk_lt hk_s.out
     obtain rfl | rfl | rfl : j = 0 ∨ j = 1 ∨ j = 2 := by omega
     ·have hxs := hc_s 0
      simp only [List.getElem?_toArray, List.getElem?_cons_zero, List.getElem?_cons_succ] at hxs
      have hx0 := hc_e 0; have hx1 := hc_e 1; have hx2 := hc_e 2; have hx3 := hc_e 3; have hx4 := hc_e 4; have hx5 := hc_e 5; have hx6 := hc_e 6
      simp only [List.getElem?_toArray, List.getElem?_cons_zero, List.getElem?_cons_succ] at hx0 hx1 hx2 hx3 hx4 hx5 hx6
      clear hc_e hc_s hf_e hf_s
      cases hq : efEq (effV 1 0 true true) ⟨en, ru, re, si, co, lo, as_⟩
      all_goals have hq' : efEq ⟨(effV 1 0 true true).en, (effV 1 0 true true).ru, (effV 1 0 true true).re, (effV 1 0 true true).si, (effV 1 0 true true).co, (effV 1 0 true true).lo, (effV 1 0 true true).as_⟩ ⟨en, ru, re, si, co, lo, as_⟩ = _ := hq
      all_goals have HQ := Aside0.mk hq
      all_goals clear hq
      all_goals go_wp2_with fail
      all_goals go_region_held3 (fun w' => w'.cell? ⟨w.heap.size, 0, none⟩ = some (.int .i64 en) ∧ w'.cell? ⟨w.heap.size, 1, none⟩ = some (.bool ru) ∧ w'.cell? ⟨w.heap.size, 2, none⟩ = some (.int .i64 re) ∧ w'.cell? ⟨w.heap.size, 3, none⟩ = some (.bool si) ∧ w'.cell? ⟨w.heap.size, 4, none⟩ = some (.int .u16 co) ∧ w'.cell? ⟨w.heap.size, 5, none⟩ = some (.bool lo) ∧ w'.cell? ⟨w.heap.size, 6, none⟩ = some (.int .i64 as_) ∧ Below w.heap.size w w')
       ((first | (simp [*]; exact below_drew' HBw) | (go_split_ands; repeat' apply And.intro) <;> (first | exact pw_cell_below hb (by assumption) | exact Below.trans (by assumption) (hb.mono (Below.size (by assumption))))))
       ((go_at_call 89; refine (eff1V 0 _ _ _).mono ?_; rintro e w5 ⟨rfl, hb⟩))
      all_goals go_wp2_with fail
      ·go_roundw
       case rel => first | exact ⟨1, by omega, rfl, rfl, ⟨fun _ => HQ.out, fun h => absurd h (by omega)⟩, ⟨HBx.out.trans ((below_undrew hb).mono HBx.out.size)⟩⟩ | ((repeat apply Exists.intro); exact ⟨⟨1, by omega, rfl, rfl, ⟨fun _ => HQ.out, fun h => absurd h (by omega)⟩, ⟨HBx.out.trans ((below_undrew hb).mono HBx.out.size)⟩⟩, rfl⟩)
       case measure => simp [intOf]
      ·rw [Exit.noGoto_ret]
       go_ret
       go_split_ands
       exact ⟨by rw [any_some (k := 1) (by omega) (.inl HQ.out)]; rfl, by assumption⟩
     ·have hxs := hc_s 1
      simp only [List.getElem?_toArray, List.getElem?_cons_zero, List.getElem?_cons_succ] at hxs
      have hx0 := hc_e 0; have hx1 := hc_e 1; have hx2 := hc_e 2; have hx3 := hc_e 3; have hx4 := hc_e 4; have hx5 := hc_e 5; have hx6 := hc_e 6
      simp only [List.getElem?_toArray, List.getElem?_cons_zero, List.getElem?_cons_succ] at hx0 hx1 hx2 hx3 hx4 hx5 hx6
      clear hc_e hc_s hf_e hf_s
      cases hq : efEq (effV 1 co true true) ⟨en, ru, re, si, co, lo, as_⟩
      all_goals have hq' : efEq ⟨(effV 1 co true true).en, (effV 1 co true true).ru, (effV 1 co true true).re, (effV 1 co true true).si, (effV 1 co true true).co, (effV 1 co true true).lo, (effV 1 co true true).as_⟩ ⟨en, ru, re, si, co, lo, as_⟩ = _ := hq
      all_goals have HQ := Aside0.mk hq
      all_goals clear hq
      all_goals go_wp2_with fail
      all_goals go_region_held3 (fun w' => w'.cell? ⟨w.heap.size, 0, none⟩ = some (.int .i64 en) ∧ w'.cell? ⟨w.heap.size, 1, none⟩ = some (.bool ru) ∧ w'.cell? ⟨w.heap.size, 2, none⟩ = some (.int .i64 re) ∧ w'.cell? ⟨w.heap.size, 3, none⟩ = some (.bool si) ∧ w'.cell? ⟨w.heap.size, 4, none⟩ = some (.int .u16 co) ∧ w'.cell? ⟨w.heap.size, 5, none⟩ = some (.bool lo) ∧ w'.cell? ⟨w.heap.size, 6, none⟩ = some (.int .i64 as_) ∧ Below w.heap.size w w')
       ((first | (simp [*]; exact below_drew' HBw) | (go_split_ands; repeat' apply And.intro) <;> (first | exact pw_cell_below hb (by assumption) | exact Below.trans (by assumption) (hb.mono (Below.size (by assumption))))))
       ((go_at_call 89; refine (eff1V co _ _ _).mono ?_; rintro e w5 ⟨rfl, hb⟩))
      all_goals go_wp2_with fail
      ·go_roundw
       case rel => first | exact ⟨2, by omega, rfl, rfl, ⟨fun _ => HI.1 (by omega), fun _ => HQ.out⟩, ⟨HBx.out.trans ((below_undrew hb).mono HBx.out.size)⟩⟩ | ((repeat apply Exists.intro); exact ⟨⟨2, by omega, rfl, rfl, ⟨fun _ => HI.1 (by omega), fun _ => HQ.out⟩, ⟨HBx.out.trans ((below_undrew hb).mono HBx.out.size)⟩⟩, rfl⟩)
       case measure => simp [intOf]
      ·rw [Exit.noGoto_ret]
       go_ret
       go_split_ands
       exact ⟨by rw [any_some (k := 1) (by omega) (.inr HQ.out)]; rfl, by assumption⟩
     ·go_wp2_with fail
      go_roundw
      case rel => exact ⟨2, by omega, rfl, rfl, ⟨none_step HN.out HI⟩, ⟨HBr.out.trans (((boxes1 HBx.out).2).mono HBr.out.size)⟩⟩
      case measure => simp [intOf]
   ·have i0 : ∀ wz, (Instr.index 96 (.agg #[.func (.func 88) #[] #[], .func (.func 89) #[] #[], .func (.func 90) #[] #[], .func (.func 91) #[] #[], .func (.func 92) #[] #[], .func (.func 94) #[] #[], .func (.func 95) #[] #[], .func (.func 96) #[] #[]]) (.int .i64 2)).run Tryd.prog wz = .ok (.func (.func 90) #[] #[]) wz := fun _ => by kernel_rfl
    obtain ⟨wo, rfl⟩ : ∃ wo : World, wo = wr := ⟨_, rfl⟩
    go_wp2_with fail
    clear hc_e hf_e hl_e i0
    go_loopw [3, 26] (fun o i wx => ∃ j : Nat, j ≤ 2 ∧ o = .bool false ∧ i = .int .i64 j ∧ innerN ⟨en, ru, re, si, co, lo, as_⟩ 2 j ∧ Aside0 (Below (wo.alloc (.cells #[.int .u16 0, .int .u16 co] 43)).heap.size (wo.alloc (.cells #[.int .u16 0, .int .u16 co] 43)) wx)) (fun _ i _ => 2 - (intOf i).toNat)
    case atStart => exact ⟨0, by omega, rfl, rfl, ⟨fun h => absurd h (by omega), fun h => absurd h (by omega)⟩, ⟨Below.refl _ _⟩⟩
    case round =>
     obtain ⟨j, hj, rfl, rfl, HI, HBx⟩ := hrel
     obtain ⟨hk_s, hBx⟩ := boxes1 HBx.out
     have BX := Aside0.mk ((hBx.block _ (blk_lt BE.out)).trans BE.out)
     have HBw := HB.out.trans ((HBr.out.trans (hBx.mono HBr.out.size)).mono HB.out.size)
     clear hBx
     have hc_e := blk_cell BX.out; have hf_e := blk_frozen BX.out; have hl_e := blk_lt BX.out
     have hc_s := blk_cell hk_s.out; have hf_s := blk_frozen hk_s.out; have hl_s := blk_lt hk_s.out
     obtain rfl | rfl | rfl : j = 0 ∨ j = 1 ∨ j = 2 := by omega
     ·have hxs := hc_s 0
      simp only [List.getElem?_toArray, List.getElem?_cons_zero, List.getElem?_cons_succ] at hxs
      have hx0 := hc_e 0; have hx1 := hc_e 1; have hx2 := hc_e 2; have hx3 := hc_e 3; have hx4 := hc_e 4; have hx5 := hc_e 5; have hx6 := hc_e 6
      simp only [List.getElem?_toArray, List.getElem?_cons_zero, List.getElem?_cons_succ] at hx0 hx1 hx2 hx3 hx4 hx5 hx6
      clear hc_e hc_s hf_e hf_s
      cases hq : efEq (effV 2 0 true true) ⟨en, ru, re, si, co, lo, as_⟩
      all_goals have hq' : efEq ⟨(effV 2 0 true true).en, (effV 2 0 true true).ru, (effV 2 0 true true).re, (effV 2 0 true true).si, (effV 2 0 true true).co, (effV 2 0 true true).lo, (effV 2 0 true true).as_⟩ ⟨en, ru, re, si, co, lo, as_⟩ = _ := hq
      all_goals have HQ := Aside0.mk hq
      all_goals clear hq
      all_goals go_wp2_with fail
      all_goals go_region_held3 (fun w' => w'.cell? ⟨w.heap.size, 0, none⟩ = some (.int .i64 en) ∧ w'.cell? ⟨w.heap.size, 1, none⟩ = some (.bool ru) ∧ w'.cell? ⟨w.heap.size, 2, none⟩ = some (.int .i64 re) ∧ w'.cell? ⟨w.heap.size, 3, none⟩ = some (.bool si) ∧ w'.cell? ⟨w.heap.size, 4, none⟩ = some (.int .u16 co) ∧ w'.cell? ⟨w.heap.size, 5, none⟩ = some (.bool lo) ∧ w'.cell? ⟨w.heap.size, 6, none⟩ = some (.int .i64 as_) ∧ Below w.heap.size w w')
       ((first | (simp [*]; exact below_drew' HBw) | (go_split_ands; repeat' apply And.intro) <;> (first | exact pw_cell_below hb (by assumption) | exact Below.trans (by assumption) (hb.mono (Below.size (by assumption))))))
       ((go_at_call 90; refine (eff2V 0 _ _ _).mono ?_; rintro e w5 ⟨rfl, hb⟩))
      all_goals go_wp2_with fail
      ·go_roundw
       case rel => first | exact ⟨1, by omega, rfl, rfl, ⟨fun _ => HQ.out, fun h => absurd h (by omega)⟩, ⟨HBx.out.trans ((below_undrew hb).mono HBx.out.size)⟩⟩ | ((repeat apply Exists.intro); exact ⟨⟨1, by omega, rfl, rfl, ⟨fun _ => HQ.out, fun h => absurd h (by omega)⟩, ⟨HBx.out.trans ((below_undrew hb).mono HBx.out.size)⟩⟩, rfl⟩)
       case measure => simp [intOf]
      ·rw [Exit.noGoto_ret]
       go_ret
       go_split_ands
       exact ⟨by rw [any_some (k := 2) (by omega) (.inl HQ.out)]; rfl, by assumption⟩
     ·have hxs := hc_s 1
      simp only [List.getElem?_toArray, List.getElem?_cons_zero, List.getElem?_cons_succ] at hxs
      have hx0 := hc_e 0; have hx1 := hc_e 1; have hx2 := hc_e 2; have hx3 := hc_e 3; have hx4 := hc_e 4; have hx5 := hc_e 5; have hx6 := hc_e 6
      simp only [List.getElem?_toArray, List.getElem?_cons_zero, List.getElem?_cons_succ] at hx0 hx1 hx2 hx3 hx4 hx5 hx6
      clear hc_e hc_s hf_e hf_s
      cases hq : efEq (effV 2 co true true) ⟨en, ru, re, si, co, lo, as_⟩
      all_goals have hq' : efEq ⟨(effV 2 co true true).en, (effV 2 co true true).ru, (effV 2 co true true).re, (effV 2 co true true).si, (effV 2 co true true).co, (effV 2 co true true).lo, (effV 2 co true true).as_⟩ ⟨en, ru, re, si, co, lo, as_⟩ = _ := hq
      all_goals have HQ := Aside0.mk hq
      all_goals clear hq
      all_goals go_wp2_with fail
      all_goals go_region_held3 (fun w' => w'.cell? ⟨w.heap.size, 0, none⟩ = some (.int .i64 en) ∧ w'.cell? ⟨w.heap.size, 1, none⟩ = some (.bool ru) ∧ w'.cell? ⟨w.heap.size, 2, none⟩ = some (.int .i64 re) ∧ w'.cell? ⟨w.heap.size, 3, none⟩ = some (.bool si) ∧ w'.cell? ⟨w.heap.size, 4, none⟩ = some (.int .u16 co) ∧ w'.cell? ⟨w.heap.size, 5, none⟩ = some (.bool lo) ∧ w'.cell? ⟨w.heap.size, 6, none⟩ = some (.int .i64 as_) ∧ Below w.heap.size w w')
       ((first | (simp [*]; exact below_drew' HBw) | (go_split_ands; repeat' apply And.intro) <;> (first | exact pw_cell_below hb (by assumption) | exact Below.trans (by assumption) (hb.mono (Below.size (by assumption))))))
       ((go_at_call 90; refine (eff2V co _ _ _).mono ?_; rintro e w5 ⟨rfl, hb⟩))
      all_goals go_wp2_with fail
      ·go_roundw
       case rel => first | exact ⟨2, by omega, rfl, rfl, ⟨fun _ => HI.1 (by omega), fun _ => HQ.out⟩, ⟨HBx.out.trans ((below_undrew hb).mono HBx.out.size)⟩⟩ | ((repeat apply Exists.intro); exact ⟨⟨2, by omega, rfl, rfl, ⟨fun _ => HI.1 (by omega), fun _ => HQ.out⟩, ⟨HBx.out.trans ((below_undrew hb).mono HBx.out.size)⟩⟩, rfl⟩)
       case measure => simp [intOf]
      ·rw [Exit.noGoto_ret]
       go_ret
       go_split_ands
       exact ⟨by rw [any_some (k := 2) (by omega) (.inr HQ.out)]; rfl, by assumption⟩
     ·go_wp2_with fail
      go_roundw
      case rel => exact ⟨3, by omega, rfl, rfl, ⟨none_step HN.out HI⟩, ⟨HBr.out.trans (((boxes1 HBx.out).2).mono HBr.out.size)⟩⟩
      case measure => simp [intOf]
   ·have i0 : ∀ wz, (Instr.index 96 (.agg #[.func (.func 88) #[] #[], .func (.func 89) #[] #[], .func (.func 90) #[] #[], .func (.func 91) #[] #[], .func (.func 92) #[] #[], .func (.func 94) #[] #[], .func (.func 95) #[] #[], .func (.func 96) #[] #[]]) (.int .i64 3)).run Tryd.prog wz = .ok (.func (.func 91) #[] #[]) wz := fun _ => by kernel_rfl
    obtain ⟨wo, rfl⟩ : ∃ wo : World, wo = wr := ⟨_, rfl⟩
    go_wp2_with fail
    clear hc_e hf_e hl_e i0
    go_loopw [3, 26] (fun o i wx => ∃ j : Nat, j ≤ 2 ∧ o = .bool false ∧ i = .int .i64 j ∧ innerN ⟨en, ru, re, si, co, lo, as_⟩ 3 j ∧ Aside0 (Below (wo.alloc (.cells #[.int .u16 0, .int .u16 co] 43)).heap.size (wo.alloc (.cells #[.int .u16 0, .int .u16 co] 43)) wx)) (fun _ i _ => 2 - (intOf i).toNat)
    case atStart => exact ⟨0, by omega, rfl, rfl, ⟨fun h => absurd h (by omega), fun h => absurd h (by omega)⟩, ⟨Below.refl _ _⟩⟩
    case round =>
     obtain ⟨j, hj, rfl, rfl, HI, HBx⟩ := hrel
     obtain ⟨hk_s, hBx⟩ := boxes1 HBx.out
     have BX := Aside0.mk ((hBx.block _ (blk_lt BE.out)).trans BE.out)
     have HBw := HB.out.trans ((HBr.out.trans (hBx.mono HBr.out.size)).mono HB.out.size)
     clear hBx
     have hc_e := blk_cell BX.out; have hf_e := blk_frozen BX.out; have hl_e := blk_lt BX.out
     have hc_s := blk_cell hk_s.out; have hf_s := blk_frozen hk_s.out; have hl_s := blk_lt hk_s.out
     obtain rfl | rfl | rfl : j = 0 ∨ j = 1 ∨ j = 2 := by omega
     ·have hxs := hc_s 0
      simp only [List.getElem?_toArray, List.getElem?_cons_zero, List.getElem?_cons_succ] at hxs
      have hx0 := hc_e 0; have hx1 := hc_e 1; have hx2 := hc_e 2; have hx3 := hc_e 3; have hx4 := hc_e 4; have hx5 := hc_e 5; have hx6 := hc_e 6
      simp only [List.getElem?_toArray, List.getElem?_cons_zero, List.getElem?_cons_succ] at hx0 hx1 hx2 hx3 hx4 hx5 hx6
      clear hc_e hc_s hf_e hf_s
      cases hq : efEq (effV 3 0 true true) ⟨en, ru, re, si, co, lo, as_⟩
      all_goals have hq' : efEq ⟨(effV 3 0 true true).en, (effV 3 0 true true).ru, (effV 3 0 true true).re, (effV 3 0 true true).si, (effV 3 0 true true).co, (effV 3 0 true true).lo, (effV 3 0 true true).as_⟩ ⟨en, ru, re, si, co, lo, as_⟩ = _ := hq
      all_goals have HQ := Aside0.mk hq
      all_goals clear hq
      all_goals go_wp2_with fail
      all_goals go_region_held3 (fun w' => w'.cell? ⟨w.heap.size, 0, none⟩ = some (.int .i64 en) ∧ w'.cell? ⟨w.heap.size, 1, none⟩ = some (.bool ru) ∧ w'.cell? ⟨w.heap.size, 2, none⟩ = some (.int .i64 re) ∧ w'.cell? ⟨w.heap.size, 3, none⟩ = some (.bool si) ∧ w'.cell? ⟨w.heap.size, 4, none⟩ = some (.int .u16 co) ∧ w'.cell? ⟨w.heap.size, 5, none⟩ = some (.bool lo) ∧ w'.cell? ⟨w.heap.size, 6, none⟩ = some (.int .i64 as_) ∧ Below w.heap.size w w')
       ((first | (simp [*]; exact below_drew' HBw) | (go_split_ands; repeat' apply And.intro) <;> (first | exact pw_cell_below hb (by assumption) | exact Below.trans (by assumption) (hb.mono (Below.size (by assumption))))))
       ((go_at_call 91; refine (eff3 0 _ _ (by omega) (by omega) _).mono ?_; rintro e w5 ⟨rfl, hb⟩))
      all_goals go_wp2_with fail
      ·go_roundw
       case rel => first | exact ⟨1, by omega, rfl, rfl, ⟨fun _ => HQ.out, fun h => absurd h (by omega)⟩, ⟨HBx.out.trans ((below_undrew hb).mono HBx.out.size)⟩⟩ | ((repeat apply Exists.intro); exact ⟨⟨1, by omega, rfl, rfl, ⟨fun _ => HQ.out, fun h => absurd h (by omega)⟩, ⟨HBx.out.trans ((below_undrew hb).mono HBx.out.size)⟩⟩, rfl⟩)
       case measure => simp [intOf]
      ·rw [Exit.noGoto_ret]
       go_ret
       go_split_ands
       exact ⟨by rw [any_some (k := 3) (by omega) (.inl HQ.out)]; rfl, by assumption⟩
     ·have hxs := hc_s 1
      simp only [List.getElem?_toArray, List.getElem?_cons_zero, List.getElem?_cons_succ] at hxs
      have hx0 := hc_e 0; have hx1 := hc_e 1; have hx2 := hc_e 2; have hx3 := hc_e 3; have hx4 := hc_e 4; have hx5 := hc_e 5; have hx6 := hc_e 6
      simp only [List.getElem?_toArray, List.getElem?_cons_zero, List.getElem?_cons_succ] at hx0 hx1 hx2 hx3 hx4 hx5 hx6
      clear hc_e hc_s hf_e hf_s
      cases hq : efEq (effV 3 co true true) ⟨en, ru, re, si, co, lo, as_⟩
      all_goals have hq' : efEq ⟨(effV 3 co true true).en, (effV 3 co true true).ru, (effV 3 co true true).re, (effV 3 co true true).si, (effV 3 co true true).co, (effV 3 co true true).lo, (effV 3 co true true).as_⟩ ⟨en, ru, re, si, co, lo, as_⟩ = _ := hq
      all_goals have HQ := Aside0.mk hq
      all_goals clear hq
      all_goals go_wp2_with fail
      all_goals go_region_held3 (fun w' => w'.cell? ⟨w.heap.size, 0, none⟩ = some (.int .i64 en) ∧ w'.cell? ⟨w.heap.size, 1, none⟩ = some (.bool ru) ∧ w'.cell? ⟨w.heap.size, 2, none⟩ = some (.int .i64 re) ∧ w'.cell? ⟨w.heap.size, 3, none⟩ = some (.bool si) ∧ w'.cell? ⟨w.heap.size, 4, none⟩ = some (.int .u16 co) ∧ w'.cell? ⟨w.heap.size, 5, none⟩ = some (.bool lo) ∧ w'.cell? ⟨w.heap.size, 6, none⟩ = some (.int .i64 as_) ∧ Below w.heap.size w w')
       ((first | (simp [*]; exact below_drew' HBw) | (go_split_ands; repeat' apply And.intro) <;> (first | exact pw_cell_below hb (by assumption) | exact Below.trans (by assumption) (hb.mono (Below.size (by assumption))))))
       ((go_at_call 91; refine (eff3 co _ _ (by omega) (by omega) _).mono ?_; rintro e w5 ⟨rfl, hb⟩))
      all_goals go_wp2_with fail
      ·go_roundw
       case rel => first | exact ⟨2, by omega, rfl, rfl, ⟨fun _ => HI.1 (by omega), fun _ => HQ.out⟩, ⟨HBx.out.trans ((below_undrew hb).mono HBx.out.size)⟩⟩ | ((repeat apply Exists.intro); exact ⟨⟨2, by omega, rfl, rfl, ⟨fun _ => HI.1 (by omega), fun _ => HQ.out⟩, ⟨HBx.out.trans ((below_undrew hb).mono HBx.out.size)⟩⟩, rfl⟩)
       case measure => simp [intOf]
      ·rw [Exit.noGoto_ret]
       go_ret
       go_split_ands
       exact ⟨by rw [any_some (k := 3) (by omega) (.inr HQ.out)]; rfl, by assumption⟩
     ·go_wp2_with fail
      go_roundw
      case rel => exact ⟨4, by omega, rfl, rfl, ⟨none_step HN.out HI⟩, ⟨HBr.out.trans (((boxes1 HBx.out).2).mono HBr.out.size)⟩⟩
      case measure => simp [intOf]
   ·have i0 : ∀ wz, (Instr.index 96 (.agg #[.func (.func 88) #[] #[], .func (.func 89) #[] #[], .func (.func 90) #[] #[], .func (.func 91) #[] #[], .func (.func 92) #[] #[], .func (.func 94) #[] #[], .func (.func 95) #[] #[], .func (.func 96) #[] #[]]) (.int .i64 4)).run Tryd.prog wz = .ok (.func (.func 92) #[] #[]) wz := fun _ => by kernel_rfl
    obtain ⟨wo, rfl⟩ : ∃ wo : World, wo = wr := ⟨_, rfl⟩
    go_wp2_with fail
    clear hc_e hf_e hl_e i0
    go_loopw [3, 26] (fun o i wx => ∃ j : Nat, j ≤ 2 ∧ o = .bool false ∧ i = .int .i64 j ∧ innerN ⟨en, ru, re, si, co, lo, as_⟩ 4 j ∧ Aside0 (Below (wo.alloc (.cells #[.int .u16 0, .int .u16 co] 43)).heap.size (wo.alloc (.cells #[.int .u16 0, .int .u16 co] 43)) wx)) (fun _ i _ => 2 - (intOf i).toNat)
    case atStart => exact ⟨0, by omega, rfl, rfl, ⟨fun h => absurd h (by omega), fun h => absurd h (by omega)⟩, ⟨Below.refl _ _⟩⟩
    case round =>
     obtain ⟨j, hj, rfl, rfl, HI, HBx⟩ := hrel
     obtain ⟨hk_s, hBx⟩ := boxes1 HBx.out
     have BX := Aside0.mk ((hBx.block _ (blk_lt BE.out)).trans BE.out)
     have HBw := HB.out.trans ((HBr.out.trans (hBx.mono HBr.out.size)).mono HB.out.size)
     clear hBx
     have hc_e := blk_cell BX.out; have hf_e := blk_frozen BX.out; have hl_e := blk_lt BX.out
     have hc_s := blk_cell hk_s.out; have hf_s := blk_frozen hk_s.out; have hl_s := blk_lt hk_s.out
     obtain rfl | rfl | rfl : j = 0 ∨ j = 1 ∨ j = 2 := by omega
     ·have hxs := hc_s 0
      simp only [List.getElem?_toArray, List.getElem?_cons_zero, List.getElem?_cons_succ] at hxs
      have hx0 := hc_e 0; have hx1 := hc_e 1; have hx2 := hc_e 2; have hx3 := hc_e 3; have hx4 := hc_e 4; have hx5 := hc_e 5; have hx6 := hc_e 6
      simp only [List.getElem?_toArray, List.getElem?_cons_zero, List.getElem?_cons_succ] at hx0 hx1 hx2 hx3 hx4 hx5 hx6
      clear hc_e hc_s hf_e hf_s
      cases hq : efEq (effV 4 0 true true) ⟨en, ru, re, si, co, lo, as_⟩
      all_goals have hq' : efEq ⟨(effV 4 0 true true).en, (effV 4 0 true true).ru, (effV 4 0 true true).re, (effV 4 0 true true).si, (effV 4 0 true true).co, (effV 4 0 true true).lo, (effV 4 0 true true).as_⟩ ⟨en, ru, re, si, co, lo, as_⟩ = _ := hq
      all_goals have HQ := Aside0.mk hq
      all_goals clear hq
      all_goals go_wp2_with fail
      all_goals go_region_held3 (fun w' => w'.cell? ⟨w.heap.size, 0, none⟩ = some (.int .i64 en) ∧ w'.cell? ⟨w.heap.size, 1, none⟩ = some (.bool ru) ∧ w'.cell? ⟨w.heap.size, 2, none⟩ = some (.int .i64 re) ∧ w'.cell? ⟨w.heap.size, 3, none⟩ = some (.bool si) ∧ w'.cell? ⟨w.heap.size, 4, none⟩ = some (.int .u16 co) ∧ w'.cell? ⟨w.heap.size, 5, none⟩ = some (.bool lo) ∧ w'.cell? ⟨w.heap.size, 6, none⟩ = some (.int .i64 as_) ∧ Below w.heap.size w w')
       ((first | (simp [*]; exact below_drew' HBw) | (go_split_ands; repeat' apply And.intro) <;> (first | exact pw_cell_below hb (by assumption) | exact Below.trans (by assumption) (hb.mono (Below.size (by assumption))))))
       ((go_at_call 92; refine (eff4V 0 _ _ _).mono ?_; rintro e w5 ⟨rfl, hb⟩))
      all_goals go_wp2_with fail
      ·go_roundw
       case rel => first | exact ⟨1, by omega, rfl, rfl, ⟨fun _ => HQ.out, fun h => absurd h (by omega)⟩, ⟨HBx.out.trans ((below_undrew hb).mono HBx.out.size)⟩⟩ | ((repeat apply Exists.intro); exact ⟨⟨1, by omega, rfl, rfl, ⟨fun _ => HQ.out, fun h => absurd h (by omega)⟩, ⟨HBx.out.trans ((below_undrew hb).mono HBx.out.size)⟩⟩, rfl⟩)
       case measure => simp [intOf]
      ·rw [Exit.noGoto_ret]
       go_ret
       go_split_ands
       exact ⟨by rw [any_some (k := 4) (by omega) (.inl HQ.out)]; rfl, by assumption⟩
     ·have hxs := hc_s 1
      simp only [List.getElem?_toArray, List.getElem?_cons_zero, List.getElem?_cons_succ] at hxs
      have hx0 := hc_e 0; have hx1 := hc_e 1; have hx2 := hc_e 2; have hx3 := hc_e 3; have hx4 := hc_e 4; have hx5 := hc_e 5; have hx6 := hc_e 6
      simp only [List.getElem?_toArray, List.getElem?_cons_zero, List.getElem?_cons_succ] at hx0 hx1 hx2 hx3 hx4 hx5 hx6
      clear hc_e hc_s hf_e hf_s
      cases hq : efEq (effV 4 co true true) ⟨en, ru, re, si, co, lo, as_⟩
      all_goals have hq' : efEq ⟨(effV 4 co true true).en, (effV 4 co true true).ru, (effV 4 co true true).re, (effV 4 co true true).si, (effV 4 co true true).co, (effV 4 co true true).lo, (effV 4 co true true).as_⟩ ⟨en, ru, re, si, co, lo, as_⟩ = _ := hq
      all_goals have HQ := Aside0.mk hq
      all_goals clear hq
      all_goals go_wp2_with fail
      all_goals go_region_held3 (fun w' => w'.cell? ⟨w.heap.size, 0, none⟩ = some (.int .i64 en) ∧ w'.cell? ⟨w.heap.size, 1, none⟩ = some (.bool ru) ∧ w'.cell? ⟨w.heap.size, 2, none⟩ = some (.int .i64 re) ∧ w'.cell? ⟨w.heap.size, 3, none⟩ = some (.bool si) ∧ w'.cell? ⟨w.heap.size, 4, none⟩ = some (.int .u16 co) ∧ w'.cell? ⟨w.heap.size, 5, none⟩ = some (.bool lo) ∧ w'.cell? ⟨w.heap.size, 6, none⟩ = some (.int .i64 as_) ∧ Below w.heap.size w w')
       ((first | (simp [*]; exact below_drew' HBw) | (go_split_ands; repeat' apply And.intro) <;> (first | exact pw_cell_below hb (by assumption) | exact Below.trans (by assumption) (hb.mono (Below.size (by assumption))))))
       ((go_at_call 92; refine (eff4V co _ _ _).mono ?_; rintro e w5 ⟨rfl, hb⟩))
      all_goals go_wp2_with fail
      ·go_roundw
       case rel => first | exact ⟨2, by omega, rfl, rfl, ⟨fun _ => HI.1 (by omega), fun _ => HQ.out⟩, ⟨HBx.out.trans ((below_undrew hb).mono HBx.out.size)⟩⟩ | ((repeat apply Exists.intro); exact ⟨⟨2, by omega, rfl, rfl, ⟨fun _ => HI.1 (by omega), fun _ => HQ.out⟩, ⟨HBx.out.trans ((below_undrew hb).mono HBx.out.size)⟩⟩, rfl⟩)
       case measure => simp [intOf]
      ·rw [Exit.noGoto_ret]
       go_ret
       go_split_ands
       exact ⟨by rw [any_some (k := 4) (by omega) (.inr HQ.out)]; rfl, by assumption⟩
     ·go_wp2_with fail
      go_roundw
      case rel => exact ⟨5, by omega, rfl, rfl, ⟨none_step HN.out HI⟩, ⟨HBr.out.trans (((boxes1 HBx.out).2).mono HBr.out.size)⟩⟩
      case measure => simp [intOf]
   ·have i0 : ∀ wz, (Instr.index 96 (.agg #[.func (.func 88) #[] #[], .func (.func 89) #[] #[], .func (.func 90) #[] #[], .func (.func 91) #[] #[], .func (.func 92) #[] #[], .func (.func 94) #[] #[], .func (.func 95) #[] #[], .func (.func 96) #[] #[]]) (.int .i64 5)).run Tryd.prog wz = .ok (.func (.func 94) #[] #[]) wz := fun _ => by kernel_rfl
    obtain ⟨wo, rfl⟩ : ∃ wo : World, wo = wr := ⟨_, rfl⟩
    go_wp2_with fail
    clear hc_e hf_e hl_e i0
    go_loopw [3, 26] (fun o i wx => ∃ j : Nat, j ≤ 2 ∧ o = .bool false ∧ i = .int .i64 j ∧ innerN ⟨en, ru, re, si, co, lo, as_⟩ 5 j ∧ Aside0 (Below (wo.alloc (.cells #[.int .u16 0, .int .u16 co] 43)).heap.size (wo.alloc (.cells #[.int .u16 0, .int .u16 co] 43)) wx)) (fun _ i _ => 2 - (intOf i).toNat)
    case atStart => exact ⟨0, by omega, rfl, rfl, ⟨fun h => absurd h (by omega), fun h => absurd h (by omega)⟩, ⟨Below.refl _ _⟩⟩
    case round =>
     obtain ⟨j, hj, rfl, rfl, HI, HBx⟩ := hrel
     obtain ⟨hk_s, hBx⟩ := boxes1 HBx.out
     have BX := Aside0.mk ((hBx.block _ (blk_lt BE.out)).trans BE.out)
     have HBw := HB.out.trans ((HBr.out.trans (hBx.mono HBr.out.size)).mono HB.out.size)
     clear hBx
     have hc_e := blk_cell BX.out; have hf_e := blk_frozen BX.out; have hl_e := blk_lt BX.out
     have hc_s := blk_cell hk_s.out; have hf_s := blk_frozen hk_s.out; have hl_s := blk_lt hk_s.out
     obtain rfl | rfl | rfl : j = 0 ∨ j = 1 ∨ j = 2 := by omega
     ·have hxs := hc_s 0
      simp only [List.getElem?_toArray, List.getElem?_cons_zero, List.getElem?_cons_succ] at hxs
      have hx0 := hc_e 0; have hx1 := hc_e 1; have hx2 := hc_e 2; have hx3 := hc_e 3; have hx4 := hc_e 4; have hx5 := hc_e 5; have hx6 := hc_e 6
      simp only [List.getElem?_toArray, List.getElem?_cons_zero, List.getElem?_cons_succ] at hx0 hx1 hx2 hx3 hx4 hx5 hx6
      clear hc_e hc_s hf_e hf_s
      cases hq : efEq (effV 5 0 true true) ⟨en, ru, re, si, co, lo, as_⟩
      all_goals have hq' : efEq ⟨(effV 5 0 true true).en, (effV 5 0 true true).ru, (effV 5 0 true true).re, (effV 5 0 true true).si, (effV 5 0 true true).co, (effV 5 0 true true).lo, (effV 5 0 true true).as_⟩ ⟨en, ru, re, si, co, lo, as_⟩ = _ := hq
      all_goals have HQ := Aside0.mk hq
      all_goals clear hq
      all_goals go_wp2_with fail
      all_goals go_region_held3 (fun w' => w'.cell? ⟨w.heap.size, 0, none⟩ = some (.int .i64 en) ∧ w'.cell? ⟨w.heap.size, 1, none⟩ = some (.bool ru) ∧ w'.cell? ⟨w.heap.size, 2, none⟩ = some (.int .i64 re) ∧ w'.cell? ⟨w.heap.size, 3, none⟩ = some (.bool si) ∧ w'.cell? ⟨w.heap.size, 4, none⟩ = some (.int .u16 co) ∧ w'.cell? ⟨w.heap.size, 5, none⟩ = some (.bool lo) ∧ w'.cell? ⟨w.heap.size, 6, none⟩ = some (.int .i64 as_) ∧ Below w.heap.size w w')
       ((first | (simp [*]; exact below_drew' HBw) | (go_split_ands; repeat' apply And.intro) <;> (first | exact pw_cell_below hb (by assumption) | exact Below.trans (by assumption) (hb.mono (Below.size (by assumption))))))
       ((go_at_call 94; refine (eff5V 0 _ _ _).mono ?_; rintro e w5 ⟨rfl, hb⟩))
      all_goals go_wp2_with fail
      ·go_roundw
       case rel => first | exact ⟨1, by omega, rfl, rfl, ⟨fun _ => HQ.out, fun h => absurd h (by omega)⟩, ⟨HBx.out.trans ((below_undrew hb).mono HBx.out.size)⟩⟩ | ((repeat apply Exists.intro); exact ⟨⟨1, by omega, rfl, rfl, ⟨fun _ => HQ.out, fun h => absurd h (by omega)⟩, ⟨HBx.out.trans ((below_undrew hb).mono HBx.out.size)⟩⟩, rfl⟩)
       case measure => simp [intOf]
      ·rw [Exit.noGoto_ret]
       go_ret
       go_split_ands
       exact ⟨by rw [any_some (k := 5) (by omega) (.inl HQ.out)]; rfl, by assumption⟩
     ·have hxs := hc_s 1
      simp only [List.getElem?_toArray, List.getElem?_cons_zero, List.getElem?_cons_succ] at hxs
      have hx0 := hc_e 0; have hx1 := hc_e 1; have hx2 := hc_e 2; have hx3 := hc_e 3; have hx4 := hc_e 4; have hx5 := hc_e 5; have hx6 := hc_e 6
      simp only [List.getElem?_toArray, List.getElem?_cons_zero, List.getElem?_cons_succ] at hx0 hx1 hx2 hx3 hx4 hx5 hx6
      clear hc_e hc_s hf_e hf_s
      cases hq : efEq (effV 5 co true true) ⟨en, ru, re, si, co, lo, as_⟩
      all_goals have hq' : efEq ⟨(effV 5 co true true).en, (effV 5 co true true).ru, (effV 5 co true true).re, (effV 5 co true true).si, (effV 5 co true true).co, (effV 5 co true true).lo, (effV 5 co true true).as_⟩ ⟨en, ru, re, si, co, lo, as_⟩ = _ := hq
      all_goals have HQ := Aside0.mk hq
      all_goals clear hq
      all_goals go_wp2_with fail
      all_goals go_region_held3 (fun w' => w'.cell? ⟨w.heap.size, 0, none⟩ = some (.int .i64 en) ∧ w'.cell? ⟨w.heap.size, 1, none⟩ = some (.bool ru) ∧ w'.cell? ⟨w.heap.size, 2, none⟩ = some (.int .i64 re) ∧ w'.cell? ⟨w.heap.size, 3, none⟩ = some (.bool si) ∧ w'.cell? ⟨w.heap.size, 4, none⟩ = some (.int .u16 co) ∧ w'.cell? ⟨w.heap.size, 5, none⟩ = some (.bool lo) ∧ w'.cell? ⟨w.heap.size, 6, none⟩ = some (.int .i64 as_) ∧ Below w.heap.size w w')
       ((first | (simp [*]; exact below_drew' HBw) | (go_split_ands; repeat' apply And.intro) <;> (first | exact pw_cell_below hb (by assumption) | exact Below.trans (by assumption) (hb.mono (Below.size (by assumption))))))
       ((go_at_call 94; refine (eff5V co _ _ _).mono ?_; rintro e w5 ⟨rfl, hb⟩))
      all_goals go_wp2_with fail
      ·go_roundw
       case rel => first | exact ⟨2, by omega, rfl, rfl, ⟨fun _ => HI.1 (by omega), fun _ => HQ.out⟩, ⟨HBx.out.trans ((below_undrew hb).mono HBx.out.size)⟩⟩ | ((repeat apply Exists.intro); exact ⟨⟨2, by omega, rfl, rfl, ⟨fun _ => HI.1 (by omega), fun _ => HQ.out⟩, ⟨HBx.out.trans ((below_undrew hb).mono HBx.out.size)⟩⟩, rfl⟩)
       case measure => simp [intOf]
      ·rw [Exit.noGoto_ret]
       go_ret
       go_split_ands
       exact ⟨by rw [any_some (k := 5) (by omega) (.inr HQ.out)]; rfl, by assumption⟩
     ·go_wp2_with fail
      go_roundw
      case rel => exact ⟨6, by omega, rfl, rfl, ⟨none_step HN.out HI⟩, ⟨HBr.out.trans (((boxes1 HBx.out).2).mono HBr.out.size)⟩⟩
      case measure => simp [intOf]
   ·have i0 : ∀ wz, (Instr.index 96 (.agg #[.func (.func 88) #[] #[], .func (.func 89) #[] #[], .func (.func 90) #[] #[], .func (.func 91) #[] #[], .func (.func 92) #[] #[], .func (.func 94) #[] #[], .func (.func 95) #[] #[], .func (.func 96) #[] #[]]) (.int .i64 6)).run Tryd.prog wz = .ok (.func (.func 95) #[] #[]) wz := fun _ => by kernel_rfl
    obtain ⟨wo, rfl⟩ : ∃ wo : World, wo = wr := ⟨_, rfl⟩
    go_wp2_with fail
    clear hc_e hf_e hl_e i0
    go_loopw [3, 26] (fun o i wx => ∃ j : Nat, j ≤ 2 ∧ o = .bool false ∧ i = .int .i64 j ∧ innerN ⟨en, ru, re, si, co, lo, as_⟩ 6 j ∧ Aside0 (Below (wo.alloc (.cells #[.int .u16 0, .int .u16 co] 43)).heap.size (wo.alloc (.cells #[.int .u16 0, .int .u16 co] 43)) wx)) (fun _ i _ => 2 - (intOf i).toNat)
    case atStart => exact ⟨0, by omega, rfl, rfl, ⟨fun h => absurd h (by omega), fun h => absurd h (by omega)⟩, ⟨Below.refl _ _⟩⟩
    case round =>
     obtain ⟨j, hj, rfl, rfl, HI, HBx⟩ := hrel
     obtain ⟨hk_s, hBx⟩ := boxes1 HBx.out
     have BX := Aside0.mk ((hBx.block _ (blk_lt BE.out)).trans BE.out)
     have HBw := HB.out.trans ((HBr.out.trans (hBx.mono HBr.out.size)).mono HB.out.size)
     clear hBx
     have hc_e := blk_cell BX.out; have hf_e := blk_frozen BX.out; have hl_e := blk_lt BX.out
     have hc_s := blk_cell hk_s.out; have hf_s := blk_frozen hk_s.out; have hl_s := blk_lt hk_s.out
     obtain rfl | rfl | rfl : j = 0 ∨ j = 1 ∨ j = 2 := by omega
     ·have hxs := hc_s 0
      simp only [List.getElem?_toArray, List.getElem?_cons_zero, List.getElem?_cons_succ] at hxs
      have hx0 := hc_e 0; have hx1 := hc_e 1; have hx2 := hc_e 2; have hx3 := hc_e 3; have hx4 := hc_e 4; have hx5 := hc_e 5; have hx6 := hc_e 6
      simp only [List.getElem?_toArray, List.getElem?_cons_zero, List.getElem?_cons_succ] at hx0 hx1 hx2 hx3 hx4 hx5 hx6
      clear hc_e hc_s hf_e hf_s
      cases hq : efEq (effV 6 0 true true) ⟨en, ru, re, si, co, lo, as_⟩
      all_goals have hq' : efEq ⟨(effV 6 0 true true).en, (effV 6 0 true true).ru, (effV 6 0 true true).re, (effV 6 0 true true).si, (effV 6 0 true true).co, (effV 6 0 true true).lo, (effV 6 0 true true).as_⟩ ⟨en, ru, re, si, co, lo, as_⟩ = _ := hq
      all_goals have HQ := Aside0.mk hq
      all_goals clear hq
      all_goals go_wp2_with fail
      all_goals go_region_held3 (fun w' => w'.cell? ⟨w.heap.size, 0, none⟩ = some (.int .i64 en) ∧ w'.cell? ⟨w.heap.size, 1, none⟩ = some (.bool ru) ∧ w'.cell? ⟨w.heap.size, 2, none⟩ = some (.int .i64 re) ∧ w'.cell? ⟨w.heap.size, 3, none⟩ = some (.bool si) ∧ w'.cell? ⟨w.heap.size, 4, none⟩ = some (.int .u16 co) ∧ w'.cell? ⟨w.heap.size, 5, none⟩ = some (.bool lo) ∧ w'.cell? ⟨w.heap.size, 6, none⟩ = some (.int .i64 as_) ∧ Below w.heap.size w w')
       ((first | (simp [*]; exact below_drew' HBw) | (go_split_ands; repeat' apply And.intro) <;> (first | exact pw_cell_below hb (by assumption) | exact Below.trans (by assumption) (hb.mono (Below.size (by assumption))))))
       ((go_at_call 95; refine (eff6V 0 _ _ _).mono ?_; rintro e w5 ⟨rfl, hb⟩))
      all_goals go_wp2_with fail
      ·go_roundw
       case rel => first | exact ⟨1, by omega, rfl, rfl, ⟨fun _ => HQ.out, fun h => absurd h (by omega)⟩, ⟨HBx.out.trans ((below_undrew hb).mono HBx.out.size)⟩⟩ | ((repeat apply Exists.intro); exact ⟨⟨1, by omega, rfl, rfl, ⟨fun _ => HQ.out, fun h => absurd h (by omega)⟩, ⟨HBx.out.trans ((below_undrew hb).mono HBx.out.size)⟩⟩, rfl⟩)
       case measure => simp [intOf]
      ·rw [Exit.noGoto_ret]
       go_ret
       go_split_ands
       exact ⟨by rw [any_some (k := 6) (by omega) (.inl HQ.out)]; rfl, by assumption⟩
     ·have hxs := hc_s 1
      simp only [List.getElem?_toArray, List.getElem?_cons_zero, List.getElem?_cons_succ] at hxs
      have hx0 := hc_e 0; have hx1 := hc_e 1; have hx2 := hc_e 2; have hx3 := hc_e 3; have hx4 := hc_e 4; have hx5 := hc_e 5; have hx6 := hc_e 6
      simp only [List.getElem?_toArray, List.getElem?_cons_zero, List.getElem?_cons_succ] at hx0 hx1 hx2 hx3 hx4 hx5 hx6
      clear hc_e hc_s hf_e hf_s
      cases hq : efEq (effV 6 co true true) ⟨en, ru, re, si, co, lo, as_⟩
      all_goals have hq' : efEq ⟨(effV 6 co true true).en, (effV 6 co true true).ru, (effV 6 co true true).re, (effV 6 co true true).si, (effV 6 co true true).co, (effV 6 co true true).lo, (effV 6 co true true).as_⟩ ⟨en, ru, re, si, co, lo, as_⟩ = _ := hq
      all_goals have HQ := Aside0.mk hq
      all_goals clear hq
      all_goals go_wp2_with fail
      all_goals go_region_held3 (fun w' => w'.cell? ⟨w.heap.size, 0, none⟩ = some (.int .i64 en) ∧ w'.cell? ⟨w.heap.size, 1, none⟩ = some (.bool ru) ∧ w'.cell? ⟨w.heap.size, 2, none⟩ = some (.int .i64 re) ∧ w'.cell? ⟨w.heap.size, 3, none⟩ = some (.bool si) ∧ w'.cell? ⟨w.heap.size, 4, none⟩ = some (.int .u16 co) ∧ w'.cell? ⟨w.heap.size, 5, none⟩ = some (.bool lo) ∧ w'.cell? ⟨w.heap.size, 6, none⟩ = some (.int .i64 as_) ∧ Below w.heap.size w w')
       ((first | (simp [*]; exact below_drew' HBw) | (go_split_ands; repeat' apply And.intro) <;> (first | exact pw_cell_below hb (by assumption) | exact Below.trans (by assumption) (hb.mono (Below.size (by assumption))))))
       ((go_at_call 95; refine (eff6V co _ _ _).mono ?_; rintro e w5 ⟨rfl, hb⟩))
      all_goals go_wp2_with fail
      ·go_roundw
       case rel => first | exact ⟨2, by omega, rfl, rfl, ⟨fun _ => HI.1 (by omega), fun _ => HQ.out⟩, ⟨HBx.out.trans ((below_undrew hb).mono HBx.out.size)⟩⟩ | ((repeat apply Exists.intro); exact ⟨⟨2, by omega, rfl, rfl, ⟨fun _ => HI.1 (by omega), fun _ => HQ.out⟩, ⟨HBx.out.trans ((below_undrew hb).mono HBx.out.size)⟩⟩, rfl⟩)
       case measure => simp [intOf]
      ·rw [Exit.noGoto_ret]
       go_ret
       go_split_ands
       exact ⟨by rw [any_some (k := 6) (by omega) (.inr HQ.out)]; rfl, by assumption⟩
     ·go_wp2_with fail
      go_roundw
      case rel => exact ⟨7, by omega, rfl, rfl, ⟨none_step HN.out HI⟩, ⟨HBr.out.trans (((boxes1 HBx.out).2).mono HBr.out.size)⟩⟩
      case measure => simp [intOf]
   ·have i0 : ∀ wz, (Instr.index 96 (.agg #[.func (.func 88) #[] #[], .func (.func 89) #[] #[], .func (.func 90) #[] #[], .func (.func 91) #[] #[], .func (.func 92) #[] #[], .func (.func 94) #[] #[], .func (.func 95) #[] #[], .func (.func 96) #[] #[]]) (.int .i64 7)).run Tryd.prog wz = .ok (.func (.func 96) #[] #[]) wz := fun _ => by kernel_rfl
    obtain ⟨wo, rfl⟩ : ∃ wo : World, wo = wr := ⟨_, rfl⟩
    go_wp2_with fail
    clear hc_e hf_e hl_e i0
    go_loopw [3, 26] (fun o i wx => ∃ j : Nat, j ≤ 2 ∧ o = .bool false ∧ i = .int .i64 j ∧ innerN ⟨en, ru, re, si, co, lo, as_⟩ 7 j ∧ Aside0 (Below (wo.alloc (.cells #[.int .u16 0, .int .u16 co] 43)).heap.size (wo.alloc (.cells #[.int .u16 0, .int .u16 co] 43)) wx)) (fun _ i _ => 2 - (intOf i).toNat)
    case atStart => exact ⟨0, by omega, rfl, rfl, ⟨fun h => absurd h (by omega), fun h => absurd h (by omega)⟩, ⟨Below.refl _ _⟩⟩
    case round =>
     obtain ⟨j, hj, rfl, rfl, HI, HBx⟩ := hrel
     obtain ⟨hk_s, hBx⟩ := boxes1 HBx.out
     have BX := Aside0.mk ((hBx.block _ (blk_lt BE.out)).trans BE.out)
     have HBw := HB.out.trans ((HBr.out.trans (hBx.mono HBr.out.size)).mono HB.out.size)
     clear hBx
     have hc_e := blk_cell BX.out; have hf_e := blk_frozen BX.out; have hl_e := blk_lt BX.out
     have hc_s := blk_cell hk_s.out; have hf_s := blk_frozen hk_s.out; have hl_s := blk_lt hk_s.out
     obtain rfl | rfl | rfl : j = 0 ∨ j = 1 ∨ j = 2 := by omega
     ·have hxs := hc_s 0
      simp only [List.getElem?_toArray, List.getElem?_cons_zero, List.getElem?_cons_succ] at hxs
      have hx0 := hc_e 0; have hx1 := hc_e 1; have hx2 := hc_e 2; have hx3 := hc_e 3; have hx4 := hc_e 4; have hx5 := hc_e 5; have hx6 := hc_e 6
      simp only [List.getElem?_toArray, List.getElem?_cons_zero, List.getElem?_cons_succ] at hx0 hx1 hx2 hx3 hx4 hx5 hx6
      clear hc_e hc_s hf_e hf_s
      cases hq : efEq (effV 7 0 true true) ⟨en, ru, re, si, co, lo, as_⟩
      all_goals have hq' : efEq ⟨(effV 7 0 true true).en, (effV 7 0 true true).ru, (effV 7 0 true true).re, (effV 7 0 true true).si, (effV 7 0 true true).co, (effV 7 0 true true).lo, (effV 7 0 true true).as_⟩ ⟨en, ru, re, si, co, lo, as_⟩ = _ := hq
      all_goals have HQ := Aside0.mk hq
      all_goals clear hq
      all_goals go_wp2_with fail
      all_goals go_region_held3 (fun w' => w'.cell? ⟨w.heap.size, 0, none⟩ = some (.int .i64 en) ∧ w'.cell? ⟨w.heap.size, 1, none⟩ = some (.bool ru) ∧ w'.cell? ⟨w.heap.size, 2, none⟩ = some (.int .i64 re) ∧ w'.cell? ⟨w.heap.size, 3, none⟩ = some (.bool si) ∧ w'.cell? ⟨w.heap.size, 4, none⟩ = some (.int .u16 co) ∧ w'.cell? ⟨w.heap.size, 5, none⟩ = some (.bool lo) ∧ w'.cell? ⟨w.heap.size, 6, none⟩ = some (.int .i64 as_) ∧ Below w.heap.size w w')
       ((first | (simp [*]; exact below_drew' HBw) | (go_split_ands; repeat' apply And.intro) <;> (first | exact pw_cell_below hb (by assumption) | exact Below.trans (by assumption) (hb.mono (Below.size (by assumption))))))
       ((go_at_call 96; refine (eff7V 0 _ _ _).mono ?_; rintro e w5 ⟨rfl, hb⟩))
      all_goals go_wp2_with fail
      ·go_roundw
       case rel => first | exact ⟨1, by omega, rfl, rfl, ⟨fun _ => HQ.out, fun h => absurd h (by omega)⟩, ⟨HBx.out.trans ((below_undrew hb).mono HBx.out.size)⟩⟩ | ((repeat apply Exists.intro); exact ⟨⟨1, by omega, rfl, rfl, ⟨fun _ => HQ.out, fun h => absurd h (by omega)⟩, ⟨HBx.out.trans ((below_undrew hb).mono HBx.out.size)⟩⟩, rfl⟩)
       case measure => simp [intOf]
      ·rw [Exit.noGoto_ret]
       go_ret
       go_split_ands
       exact ⟨by rw [any_some (k := 7) (by omega) (.inl HQ.out)]; rfl, by assumption⟩
     ·have hxs := hc_s 1
      simp only [List.getElem?_toArray, List.getElem?_cons_zero, List.getElem?_cons_succ] at hxs
      have hx0 := hc_e 0; have hx1 := hc_e 1; have hx2 := hc_e 2; have hx3 := hc_e 3; have hx4 := hc_e 4; have hx5 := hc_e 5; have hx6 := hc_e 6
      simp only [List.getElem?_toArray, List.getElem?_cons_zero, List.getElem?_cons_succ] at hx0 hx1 hx2 hx3 hx4 hx5 hx6
      clear hc_e hc_s hf_e hf_s
      cases hq : efEq (effV 7 co true true) ⟨en, ru, re, si, co, lo, as_⟩
      all_goals have hq' : efEq ⟨(effV 7 co true true).en, (effV 7 co true true).ru, (effV 7 co true true).re, (effV 7 co true true).si, (effV 7 co true true).co, (effV 7 co true true).lo, (effV 7 co true true).as_⟩ ⟨en, ru, re, si, co, lo, as_⟩ = _ := hq
      all_goals have HQ := Aside0.mk hq
      all_goals clear hq
      all_goals go_wp2_with fail
      all_goals go_region_held3 (fun w' => w'.cell? ⟨w.heap.size, 0, none⟩ = some (.int .i64 en) ∧ w'.cell? ⟨w.heap.size, 1, none⟩ = some (.bool ru) ∧ w'.cell? ⟨w.heap.size, 2, none⟩ = some (.int .i64 re) ∧ w'.cell? ⟨w.heap.size, 3, none⟩ = some (.bool si) ∧ w'.cell? ⟨w.heap.size, 4, none⟩ = some (.int .u16 co) ∧ w'.cell? ⟨w.heap.size, 5, none⟩ = some (.bool lo) ∧ w'.cell? ⟨w.heap.size, 6, none⟩ = some (.int .i64 as_) ∧ Below w.heap.size w w')
       ((first | (simp [*]; exact below_drew' HBw) | (go_split_ands; repeat' apply And.intro) <;> (first | exact pw_cell_below hb (by assumption) | exact Below.trans (by assumption) (hb.mono (Below.size (by assumption))))))
       ((go_at_call 96; refine (eff7V co _ _ _).mono ?_; rintro e w5 ⟨rfl, hb⟩))
      all_goals go_wp2_with fail
      ·go_roundw
       case rel => first | exact ⟨2, by omega, rfl, rfl, ⟨fun _ => HI.1 (by omega), fun _ => HQ.out⟩, ⟨HBx.out.trans ((below_undrew hb).mono HBx.out.size)⟩⟩ | ((repeat apply Exists.intro); exact ⟨⟨2, by omega, rfl, rfl, ⟨fun _ => HI.1 (by omega), fun _ => HQ.out⟩, ⟨HBx.out.trans ((below_undrew hb).mono HBx.out.size)⟩⟩, rfl⟩)
       case measure => simp [intOf]
      ·rw [Exit.noGoto_ret]
       go_ret
       go_split_ands
       exact ⟨by rw [any_some (k := 7) (by omega) (.inr HQ.out)]; rfl, by assumption⟩
     ·go_wp2_with fail
      go_roundw
      case rel => exact ⟨8, by omega, rfl, rfl, ⟨none_step HN.out HI⟩, ⟨HBr.out.trans (((boxes1 HBx.out).2).mono HBr.out.size)⟩⟩
      case measure => simp [intOf]
  ·obtain rfl : k = 8 := by omega
   go_wp2_with fail
   rw [Exit.noGoto_ret]
   go_ret
   exact ⟨by rw [any_none HN.out]; rfl, HB.out.trans (HBr.out.mono HB.out.size)⟩
end L
end Go.Proofs.YtcbiehinhmkjmaaDoor.PE
