import Derived.Test.YtpejeeemefmafaaOM0
namespace Go.Proofs.Ytpejeeemefmafaa.RD
open Go.RowKit Go.Proofs.YtpejeeemefmafaaW.PrintWords Go.Proofs.YtpejeeemefmafaaW.PrintLast Go.Proofs.YtpejeeemefmafaaW.PrintMore
open Go.Proofs.Ytpejeeemefmafaa.PE.L (below_drewN' below_drew')
open PH
set_option linter.unusedVariables false
set_option linter.unusedSimpArgs false
set_option maxHeartbeats 4000000 in
set_option maxRecDepth 100000 in
theorem moves_law (A0 : Option Addr) (c0 : Nat) (l : List Int) (A1 : Option Addr) (c1 : Nat) (ls : List S44) (w : World) (hr0 : Kd.C (Kd.int .u8) w A0 l.length l) (hc0 : l.length ≤ c0) (hr1 : Kd.C k44 w A1 ls.length ls) (hc1 : ls.length ≤ c1) (hl : Bytes l) :
    Calls Try.prog 9 #[.slice A0 l.length c0, .slice A1 ls.length c1] w fun e w' => e = .returned (.bool true) ∧ Below w.heap.size w w' := by
  have HL := Aside0.mk hl
  have HR0 := Aside0.mk hr0
  have HR1 := Aside0.mk hr1
  clear hl hr0 hr1
  by_cases h1 : 2000 < l.length
  · have t1 : decide (2000 < (l.length : Int)) = true := decide_eq_true (by omega)
    have t2 : decide (2000 < l.length) = true := decide_eq_true (by omega)
    go_enter Try.func9, Try.ntmps9
    go_wp2_with fail
    refine (PE.L.wakes_w w).mono ?_
    rintro e w1 ⟨rfl, hB⟩
    have HB := Aside0.mk hB
    clear hB
    go_wp2
    go_ret
    exact ⟨rfl, HB.out⟩
  by_cases h2 : 150 < ls.length
  · have t1 : decide (2000 < (l.length : Int)) = false := decide_eq_false (by omega)
    have t2 : decide (2000 < l.length) = false := decide_eq_false (by omega)
    have t3 : decide (150 < (ls.length : Int)) = true := decide_eq_true (by omega)
    have t4 : decide (150 < ls.length) = true := decide_eq_true (by omega)
    go_enter Try.func9, Try.ntmps9
    go_wp2_with fail
    refine (PE.L.wakes_w w).mono ?_
    rintro e w1 ⟨rfl, hB⟩
    have HB := Aside0.mk hB
    clear hB
    go_wp2
    go_ret
    exact ⟨rfl, HB.out⟩
  have t1 : decide (2000 < (l.length : Int)) = false := decide_eq_false (by omega)
  have t2 : decide (2000 < l.length) = false := decide_eq_false (by omega)
  have t3 : decide (150 < (ls.length : Int)) = false := decide_eq_false (by omega)
  have t4 : decide (150 < ls.length) = false := decide_eq_false (by omega)
  go_enter Try.func9, Try.ntmps9
  go_wp2_with fail
  refine (PE.L.wakes_w w).mono ?_
  rintro e w1 ⟨rfl, hB⟩
  have HB := Aside0.mk hB
  clear hB
  go_wp2_with fail
  refine (read_c A0 l.length c0 l _ (Kd.C_below HR0.out HB.out) hc0 (by omega)).mono ?_
  rintro e w6 ⟨g, s, c, A, rfl, hR, hB, hs5⟩
  have HRd := Aside0.mk (hR.base (n₀ := w.heap.size) (below_size HB.out))
  replace HB := Aside0.mk (step_below HB.out hB)
  clear hR hB hs5
  go_wp2_with fail
  go_loopw [6, 25] (fun v6 v25 wr => ∃ (k f : Nat) (er : Int) (A2 : Option Addr) (c2 : Nat), k ≤ ls.length ∧ v25 = .int .i64 k ∧ v6 = .slice A2 f c2 ∧ Aside0 (Kd.R (Kd.int .u8) 5 wr w.heap.size (fun b => b ≠ g ∧ (0 < l.length → b ≠ s)) (.slice A2 f c2) (l.take f)) ∧ Aside0 (Rdr w.heap.size g s c A l f er wr) ∧ Aside0 (Below w.heap.size w wr)) (fun _ v25 _ => ls.length - (intOf v25).toNat)
  case atStart => exact ⟨0, 0, 0, none, 0, Nat.zero_le _, rfl, rfl, ⟨Kd.R_nil _ _ _ _ _⟩, HRd, HB⟩
  case round =>
    clear HRd HB
    obtain ⟨k, f, er, A2, c2, hk, rfl, rfl, HS, HRd, HB⟩ := hrel
    have hf := HRd.out.hf
    have hgl := HRd.out.glt
    by_cases hlt : k < ls.length
    · obtain ⟨ad, eA, x0, x1⟩ := at_T44 (Kd.C_below HR1.out HB.out) (k : Int) (by omega) (by omega)
      simp only [Int.toNat_natCast] at x0 x1
      obtain ⟨b, n, hx⟩ : ∃ b n, rd_T44 ls k = ⟨b, n⟩ := ⟨_, _, rfl⟩
      rw [hx] at x0 x1
      dsimp only at x0 x1
      clear hx
      subst eA
      cases b with
      | false =>
        by_cases her : er = 0
        · subst her
          by_cases hneg : n < 0
          · skip
            have z1 : nb l f 0 n = [] := by unfold nb; rw [if_neg (by omega)]
            have z2 : nf l f 0 n = f := by unfold nf; rw [if_neg (by omega)]
            have z3 : ne l f 0 n = 2 := by unfold ne; rw [if_pos rfl, if_pos (by omega)]
            have Z1 := Aside0.mk z1
            clear z1
            have Z2 := Aside0.mk z2
            clear z2
            have Z3 := Aside0.mk z3
            clear z3
            go_wp2_with fail
            have HX := Aside0.mk (heap_alloc_new wr (.cells #[.bool false, .int .i64 n] 44))
            have hB : Below wr.heap.size wr (wr.alloc (.cells #[.bool false, .int .i64 n] 44)) := (Below.refl _ _).alloc (Nat.le_refl _) _
            replace HRd := Aside0.mk (HRd.out.under hB)
            replace HS := Aside0.mk (Kd.R_below HS.out hB)
            replace HB := Aside0.mk (step_below HB.out hB)
            clear hB
            with_reducible refine (left_r HRd.out (f : Int) rfl (by omega)).mono ?_
            rintro e w' ⟨rfl, hD⟩
            have hB := hD.below
            clear hD
            replace HRd := Aside0.mk (HRd.out.under hB)
            replace HS := Aside0.mk (Kd.R_below HS.out hB)
            replace HB := Aside0.mk (step_below HB.out hB)
            replace HX := Aside0.mk ((hB.block _ (blk_lt HX.out)).trans HX.out)
            clear hB
            try clear hx0 hx1
            have hx0 : World.cell? _ ⟨wr.heap.size, 0, none⟩ = some (.bool false) := blk_cell HX.out 0
            have hx1 : World.cell? _ ⟨wr.heap.size, 1, none⟩ = some (.int .i64 n) := blk_cell HX.out 1
            go_wp2_with fail
            refine (raw_w w.heap.size g s c f A l 0 n HL.out (by omega) _ (below_size HB.out) HRd.out).mono ?_
            rintro e w' ⟨v, rfl, hRv, hR2, hK⟩
            rw [Z1.out] at hRv
            obtain ⟨Av, cv, rfl, hcv, hCv⟩ := Kd.R_reads hRv
            replace HS := Aside0.mk (R_kp HS.out hK)
            replace HB := Aside0.mk (HB.out.trans hK.b)
            clear HRd
            have HRd := Aside0.mk hR2
            clear hR2 hK
            have HV := Aside0.mk hCv
            clear hRv hCv
            rw [Z2.out, Z3.out] at HRd
            go_wp2_with fail
            with_reducible refine (left_r HRd.out (f : Int) rfl (by omega)).mono ?_
            rintro e w' ⟨rfl, hD⟩
            have hB := hD.below
            clear hD
            replace HRd := Aside0.mk (HRd.out.under hB)
            replace HS := Aside0.mk (Kd.R_below HS.out hB)
            replace HB := Aside0.mk (step_below HB.out hB)
            replace HV := Aside0.mk (Kd.C_below HV.out hB)
            clear hB
            skip
            go_wp2_with fail
            skip
            with_reducible refine (count_c Av 0 cv _ _ ?cC ?cX).mono ?_
            case cC => exact Kd.C_alloc (show Kd.C (Kd.int .u8) _ Av 0 (List.replicate 0 0) from HV.out) _
            case cX => exact (blk_cell (heap_alloc_new _ _) 0)
            rintro e w' ⟨rfl, rfl⟩
            have HRd2 := Aside0.mk (HRd.out.under ((Below.refl _ _).alloc (Nat.le_refl _) (.cells #[.int .u8 0] 5)))
            clear HRd
            have HRd := HRd2
            clear HRd2
            replace HS := Aside0.mk (Kd.R_alloc HS.out (.cells #[.int .u8 0] 5))
            replace HB := Aside0.mk (below_alloc HB.out (.cells #[.int .u8 0] 5))
            clear HV
            obtain ⟨A3, c3, e3, hc3, hC3⟩ := Kd.R_reads HS.out
            rw [show (l.take f).length = f by rw [List.length_take]; omega] at e3 hc3 hC3
            injection e3 with e4 e5 e6
            subst e4
            subst e6
            have HC3 := Aside0.mk hC3
            clear hC3 e5
            go_wp2_with fail
            with_reducible refine (left_r HRd.out (f : Int) rfl (by omega)).mono ?_
            rintro e w' ⟨rfl, hD⟩
            have hB := hD.below
            clear hD
            replace HRd := Aside0.mk (HRd.out.under hB)
            replace HS := Aside0.mk (Kd.R_below HS.out hB)
            replace HB := Aside0.mk (step_below HB.out hB)
            replace HC3 := Aside0.mk (Kd.C_below HC3.out hB)
            clear hB
            skip
            go_wp2_with fail
            with_reducible refine (prefix_c A0 A2 c0 c2 l f _ (Kd.C_below HR0.out HB.out) hc0 HC3.out hc3 HL.out (by omega)).mono ?_
            rintro e w' ⟨rfl, hD⟩
            have hB := hD.below
            clear hD
            replace HRd := Aside0.mk (HRd.out.under hB)
            replace HS := Aside0.mk (Kd.R_below HS.out hB)
            replace HB := Aside0.mk (step_below HB.out hB)
            replace HC3 := Aside0.mk (Kd.C_below HC3.out hB)
            clear hB
            go_wp2
            go_roundw
            case rel => exact ⟨k + 1, f, 2, A2, c2, by omega, by simp, rfl, HS, HRd, HB⟩
            case measure => simp [intOf]; omega
          · by_cases hsh : (l.length : Int) - f < n
            · skip
              have z1 : nb l f 0 n = [] := by unfold nb; rw [if_neg (by omega)]
              have z2 : nf l f 0 n = f := by unfold nf; rw [if_neg (by omega)]
              have z3 : ne l f 0 n = 7 := by unfold ne; rw [if_pos rfl, if_neg (by omega), if_pos (by omega)]
              have Z1 := Aside0.mk z1
              clear z1
              have Z2 := Aside0.mk z2
              clear z2
              have Z3 := Aside0.mk z3
              clear z3
              go_wp2_with fail
              have HX := Aside0.mk (heap_alloc_new wr (.cells #[.bool false, .int .i64 n] 44))
              have hB : Below wr.heap.size wr (wr.alloc (.cells #[.bool false, .int .i64 n] 44)) := (Below.refl _ _).alloc (Nat.le_refl _) _
              replace HRd := Aside0.mk (HRd.out.under hB)
              replace HS := Aside0.mk (Kd.R_below HS.out hB)
              replace HB := Aside0.mk (step_below HB.out hB)
              clear hB
              with_reducible refine (left_r HRd.out (f : Int) rfl (by omega)).mono ?_
              rintro e w' ⟨rfl, hD⟩
              have hB := hD.below
              clear hD
              replace HRd := Aside0.mk (HRd.out.under hB)
              replace HS := Aside0.mk (Kd.R_below HS.out hB)
              replace HB := Aside0.mk (step_below HB.out hB)
              replace HX := Aside0.mk ((hB.block _ (blk_lt HX.out)).trans HX.out)
              clear hB
              try clear hx0 hx1
              have hx0 : World.cell? _ ⟨wr.heap.size, 0, none⟩ = some (.bool false) := blk_cell HX.out 0
              have hx1 : World.cell? _ ⟨wr.heap.size, 1, none⟩ = some (.int .i64 n) := blk_cell HX.out 1
              go_wp2_with fail
              refine (raw_w w.heap.size g s c f A l 0 n HL.out (by omega) _ (below_size HB.out) HRd.out).mono ?_
              rintro e w' ⟨v, rfl, hRv, hR2, hK⟩
              rw [Z1.out] at hRv
              obtain ⟨Av, cv, rfl, hcv, hCv⟩ := Kd.R_reads hRv
              replace HS := Aside0.mk (R_kp HS.out hK)
              replace HB := Aside0.mk (HB.out.trans hK.b)
              clear HRd
              have HRd := Aside0.mk hR2
              clear hR2 hK
              have HV := Aside0.mk hCv
              clear hRv hCv
              rw [Z2.out, Z3.out] at HRd
              go_wp2_with fail
              with_reducible refine (left_r HRd.out (f : Int) rfl (by omega)).mono ?_
              rintro e w' ⟨rfl, hD⟩
              have hB := hD.below
              clear hD
              replace HRd := Aside0.mk (HRd.out.under hB)
              replace HS := Aside0.mk (Kd.R_below HS.out hB)
              replace HB := Aside0.mk (step_below HB.out hB)
              replace HV := Aside0.mk (Kd.C_below HV.out hB)
              clear hB
              skip
              go_wp2_with fail
              skip
              with_reducible refine (count_c Av 0 cv _ _ ?cC ?cX).mono ?_
              case cC => exact Kd.C_alloc (show Kd.C (Kd.int .u8) _ Av 0 (List.replicate 0 0) from HV.out) _
              case cX => exact (blk_cell (heap_alloc_new _ _) 0)
              rintro e w' ⟨rfl, rfl⟩
              have HRd2 := Aside0.mk (HRd.out.under ((Below.refl _ _).alloc (Nat.le_refl _) (.cells #[.int .u8 0] 5)))
              clear HRd
              have HRd := HRd2
              clear HRd2
              replace HS := Aside0.mk (Kd.R_alloc HS.out (.cells #[.int .u8 0] 5))
              replace HB := Aside0.mk (below_alloc HB.out (.cells #[.int .u8 0] 5))
              clear HV
              obtain ⟨A3, c3, e3, hc3, hC3⟩ := Kd.R_reads HS.out
              rw [show (l.take f).length = f by rw [List.length_take]; omega] at e3 hc3 hC3
              injection e3 with e4 e5 e6
              subst e4
              subst e6
              have HC3 := Aside0.mk hC3
              clear hC3 e5
              go_wp2_with fail
              with_reducible refine (left_r HRd.out (f : Int) rfl (by omega)).mono ?_
              rintro e w' ⟨rfl, hD⟩
              have hB := hD.below
              clear hD
              replace HRd := Aside0.mk (HRd.out.under hB)
              replace HS := Aside0.mk (Kd.R_below HS.out hB)
              replace HB := Aside0.mk (step_below HB.out hB)
              replace HC3 := Aside0.mk (Kd.C_below HC3.out hB)
              clear hB
              skip
              go_wp2_with fail
              with_reducible refine (prefix_c A0 A2 c0 c2 l f _ (Kd.C_below HR0.out HB.out) hc0 HC3.out hc3 HL.out (by omega)).mono ?_
              rintro e w' ⟨rfl, hD⟩
              have hB := hD.below
              clear hD
              replace HRd := Aside0.mk (HRd.out.under hB)
              replace HS := Aside0.mk (Kd.R_below HS.out hB)
              replace HB := Aside0.mk (step_below HB.out hB)
              replace HC3 := Aside0.mk (Kd.C_below HC3.out hB)
              clear hB
              go_wp2
              go_roundw
              case rel => exact ⟨k + 1, f, 7, A2, c2, by omega, by simp, rfl, HS, HRd, HB⟩
              case measure => simp [intOf]; omega
            · by_cases hz : n = 0
              · subst hz
                have ZZ := Aside0.mk (show nb l f 0 0 = [] ∧ nf l f 0 0 = f ∧ ne l f 0 0 = 0 from ⟨by unfold nb; split <;> simp, by unfold nf; split <;> simp, by unfold ne; rw [if_pos rfl, if_neg (by omega), if_neg (by omega)]⟩)
                go_wp2_with fail
                have HX := Aside0.mk (heap_alloc_new wr (.cells #[.bool false, .int .i64 0] 44))
                have hB : Below wr.heap.size wr (wr.alloc (.cells #[.bool false, .int .i64 0] 44)) := (Below.refl _ _).alloc (Nat.le_refl _) _
                replace HRd := Aside0.mk (HRd.out.under hB)
                replace HS := Aside0.mk (Kd.R_below HS.out hB)
                replace HB := Aside0.mk (step_below HB.out hB)
                clear hB
                with_reducible refine (left_r HRd.out (f : Int) rfl (by omega)).mono ?_
                rintro e w' ⟨rfl, hD⟩
                have hB := hD.below
                clear hD
                replace HRd := Aside0.mk (HRd.out.under hB)
                replace HS := Aside0.mk (Kd.R_below HS.out hB)
                replace HB := Aside0.mk (step_below HB.out hB)
                replace HX := Aside0.mk ((hB.block _ (blk_lt HX.out)).trans HX.out)
                clear hB
                try clear hx0 hx1
                have hx0 : World.cell? _ ⟨wr.heap.size, 0, none⟩ = some (.bool false) := blk_cell HX.out 0
                have hx1 : World.cell? _ ⟨wr.heap.size, 1, none⟩ = some (.int .i64 0) := blk_cell HX.out 1
                go_wp2_with fail
                refine (raw_w w.heap.size g s c f A l 0 0 HL.out (by omega) _ (below_size HB.out) HRd.out).mono ?_
                rintro e w' ⟨v, rfl, hRv, hR2, hK⟩
                rw [ZZ.out.1] at hRv
                rw [ZZ.out.2.1, ZZ.out.2.2] at hR2
                obtain ⟨Av, cv, rfl, hcv, hCv⟩ := Kd.R_reads hRv
                replace HS := Aside0.mk (R_kp HS.out hK)
                replace HB := Aside0.mk (HB.out.trans hK.b)
                clear HRd
                have HRd := Aside0.mk hR2
                clear hR2 hK
                have HV := Aside0.mk hCv
                clear hRv hCv
                go_wp2_with fail
                with_reducible refine (left_r HRd.out (f : Int) rfl (by omega)).mono ?_
                rintro e w' ⟨rfl, hD⟩
                have hB := hD.below
                clear hD
                replace HRd := Aside0.mk (HRd.out.under hB)
                replace HS := Aside0.mk (Kd.R_below HS.out hB)
                replace HB := Aside0.mk (step_below HB.out hB)
                replace HV := Aside0.mk (Kd.C_below HV.out hB)
                clear hB
                skip
                go_wp2_with fail
                skip
                with_reducible refine (count_c Av 0 cv _ _ ?cC ?cX).mono ?_
                case cC => exact Kd.C_alloc (show Kd.C (Kd.int .u8) _ Av 0 (List.replicate 0 0) from HV.out) _
                case cX => exact (blk_cell (heap_alloc_new _ _) 0)
                rintro e w' ⟨rfl, rfl⟩
                have HRd2 := Aside0.mk (HRd.out.under ((Below.refl _ _).alloc (Nat.le_refl _) (.cells #[.int .u8 0] 5)))
                clear HRd
                have HRd := HRd2
                clear HRd2
                replace HS := Aside0.mk (Kd.R_alloc HS.out (.cells #[.int .u8 0] 5))
                replace HB := Aside0.mk (below_alloc HB.out (.cells #[.int .u8 0] 5))
                clear HV
                obtain ⟨A3, c3, e3, hc3, hC3⟩ := Kd.R_reads HS.out
                rw [show (l.take f).length = f by rw [List.length_take]; omega] at e3 hc3 hC3
                injection e3 with e4 e5 e6
                subst e4
                subst e6
                have HC3 := Aside0.mk hC3
                clear hC3 e5
                go_wp2_with fail
                with_reducible refine (left_r HRd.out (f : Int) rfl (by omega)).mono ?_
                rintro e w' ⟨rfl, hD⟩
                have hB := hD.below
                clear hD
                replace HRd := Aside0.mk (HRd.out.under hB)
                replace HS := Aside0.mk (Kd.R_below HS.out hB)
                replace HB := Aside0.mk (step_below HB.out hB)
                replace HC3 := Aside0.mk (Kd.C_below HC3.out hB)
                clear hB
                skip
                go_wp2_with fail
                with_reducible refine (prefix_c A0 A2 c0 c2 l f _ (Kd.C_below HR0.out HB.out) hc0 HC3.out hc3 HL.out (by omega)).mono ?_
                rintro e w' ⟨rfl, hD⟩
                have hB := hD.below
                clear hD
                replace HRd := Aside0.mk (HRd.out.under hB)
                replace HS := Aside0.mk (Kd.R_below HS.out hB)
                replace HB := Aside0.mk (step_below HB.out hB)
                replace HC3 := Aside0.mk (Kd.C_below HC3.out hB)
                clear hB
                go_wp2
                go_roundw
                case rel => exact ⟨k + 1, f, 0, A2, c2, by omega, by simp, rfl, HS, HRd, HB⟩
                case measure => simp [intOf]; omega
              · skip
                obtain ⟨m, rfl⟩ : ∃ m : Nat, n = m := ⟨n.toNat, by omega⟩
                have z1 : nb l f 0 (m : Int) = (l.drop f).take m := by unfold nb; rw [if_pos ⟨rfl, by omega, by omega⟩]; rfl
                have z2 : nf l f 0 (m : Int) = f + m := by unfold nf; rw [if_pos ⟨rfl, by omega, by omega⟩]; rfl
                have z3 : ne l f 0 (m : Int) = 0 := by unfold ne; rw [if_pos rfl, if_neg (by omega), if_neg (by omega)]
                have Z1 := Aside0.mk z1
                clear z1
                have Z2 := Aside0.mk z2
                clear z2
                have Z3 := Aside0.mk z3
                clear z3
                go_wp2_with fail
                have HX := Aside0.mk (heap_alloc_new wr (.cells #[.bool false, .int .i64 m] 44))
                have hB : Below wr.heap.size wr (wr.alloc (.cells #[.bool false, .int .i64 m] 44)) := (Below.refl _ _).alloc (Nat.le_refl _) _
                replace HRd := Aside0.mk (HRd.out.under hB)
                replace HS := Aside0.mk (Kd.R_below HS.out hB)
                replace HB := Aside0.mk (step_below HB.out hB)
                clear hB
                with_reducible refine (left_r HRd.out (f : Int) rfl (by omega)).mono ?_
                rintro e w' ⟨rfl, hD⟩
                have hB := hD.below
                clear hD
                replace HRd := Aside0.mk (HRd.out.under hB)
                replace HS := Aside0.mk (Kd.R_below HS.out hB)
                replace HB := Aside0.mk (step_below HB.out hB)
                replace HX := Aside0.mk ((hB.block _ (blk_lt HX.out)).trans HX.out)
                clear hB
                try clear hx0 hx1
                have hx0 : World.cell? _ ⟨wr.heap.size, 0, none⟩ = some (.bool false) := blk_cell HX.out 0
                have hx1 : World.cell? _ ⟨wr.heap.size, 1, none⟩ = some (.int .i64 m) := blk_cell HX.out 1
                go_wp2_with fail
                refine (raw_w w.heap.size g s c f A l 0 (m : Int) HL.out (by omega) _ (below_size HB.out) HRd.out).mono ?_
                rintro e w' ⟨v, rfl, hRv, hR2, hK⟩
                rw [Z1.out] at hRv
                obtain ⟨Av, cv, ev, hcv, hCv⟩ := Kd.R_reads hRv
                rw [take_len l f m (by omega)] at ev hcv hCv
                subst ev
                replace HS := Aside0.mk (R_kp HS.out hK)
                replace HB := Aside0.mk (HB.out.trans hK.b)
                clear HRd
                have HRd := Aside0.mk hR2
                clear hR2 hK
                have HV := Aside0.mk hCv
                clear hRv hCv
                rw [Z2.out, Z3.out] at HRd
                go_wp2_with fail
                with_reducible refine (left_r HRd.out ((f : Int) + m) (by omega) (by omega)).mono ?_
                rintro e w' ⟨rfl, hD⟩
                have hB := hD.below
                clear hD
                replace HRd := Aside0.mk (HRd.out.under hB)
                replace HS := Aside0.mk (Kd.R_below HS.out hB)
                replace HB := Aside0.mk (step_below HB.out hB)
                replace HV := Aside0.mk (Kd.C_below HV.out hB)
                clear hB
                skip
                have HV' := HV
                clear HV
                have HG := Aside0.mk (show g < _ ∧ (0 < l.length → s < _) from ⟨HRd.out.glt, HRd.out.slt⟩)
                go_wp2_with (first | ((with_reducible refine gate_builtin (b := .append) (xs := #[.tmp 55, .tmp 56]) rfl ?_); at_builtin; refine Kd.R_append_rows (Kd.int .u8) (w0 := w) w.heap.size rfl (.tmp 55) (.tmp 56) 22 5 (.int .u8 0) 1 rfl Try.underlying22 PH.info5 rfl (by decide) (by omega) (.slice A2 f c2) (l.take f) ((l.drop f).take m) _ _ _ (fun b => b ≠ g ∧ (0 < l.length → b ≠ s)) (fun _ => False) ?aE rfl ?aO ?aR (fun _ _ h => h) (fun _ h => h.elim) ?aF ?aB ?aS ?aL ?_; (case aE => rfl); (case aR => exact HV'.out); (case aB => exact HB.out); (case aF => exact (fun k hk => ⟨by have := HG.out.1; omega, fun hp => by have := HG.out.2 hp; omega⟩)); (case aO => exact HS.out); (case aS => exact below_size HB.out); (case aL => simp; omega); intro v2 w5 ho hb hg hat; have HRd2 := Aside0.mk (HRd.out.mv (hg.block g HRd.out.glt (fun e => (HS.out.1 g e.symm).1 rfl)) (fun hp => hg.block s (HRd.out.slt hp) (fun e => (HS.out.1 s e.symm).2 hp rfl))); clear HRd; have HRd := HRd2; clear HRd2; replace HB := Aside0.mk hb; rw [take_more l f m (by omega)] at ho; replace HS := Aside0.mk ho; clear ho hb hg hat HG HV'; obtain ⟨A3, c3, e3, hc3, hC3⟩ := Kd.R_reads HS.out; rw [show (l.take (f + m)).length = (f + m) by rw [List.length_take]; omega] at e3 hc3 hC3; subst e3; have HC3 := Aside0.mk hC3; clear hC3))
                with_reducible refine (left_r HRd.out ((f : Int) + m) (by omega) (by omega)).mono ?_
                rintro e w' ⟨rfl, hD⟩
                have hB := hD.below
                clear hD
                replace HRd := Aside0.mk (HRd.out.under hB)
                replace HS := Aside0.mk (Kd.R_below HS.out hB)
                replace HB := Aside0.mk (step_below HB.out hB)
                replace HC3 := Aside0.mk (Kd.C_below HC3.out hB)
                clear hB
                skip
                go_wp2_with fail
                with_reducible refine (prefix_c A0 A3 c0 c3 l (f + m) _ (Kd.C_below HR0.out HB.out) hc0 HC3.out hc3 HL.out (by omega)).mono ?_
                rintro e w' ⟨rfl, hD⟩
                have hB := hD.below
                clear hD
                replace HRd := Aside0.mk (HRd.out.under hB)
                replace HS := Aside0.mk (Kd.R_below HS.out hB)
                replace HB := Aside0.mk (step_below HB.out hB)
                replace HC3 := Aside0.mk (Kd.C_below HC3.out hB)
                clear hB
                go_wp2
                go_roundw
                case rel => exact ⟨k + 1, (f + m), 0, A3, c3, by omega, by simp, rfl, HS, HRd, HB⟩
                case measure => simp [intOf]; omega
        · skip
          have z1 : nb l f er n = [] := by unfold nb; rw [if_neg (by omega)]
          have z2 : nf l f er n = f := by unfold nf; rw [if_neg (by omega)]
          have z3 : ne l f er n = er := by unfold ne; rw [if_neg her]
          have Z1 := Aside0.mk z1
          clear z1
          have Z2 := Aside0.mk z2
          clear z2
          have Z3 := Aside0.mk z3
          clear z3
          go_wp2_with fail
          have HX := Aside0.mk (heap_alloc_new wr (.cells #[.bool false, .int .i64 n] 44))
          have hB : Below wr.heap.size wr (wr.alloc (.cells #[.bool false, .int .i64 n] 44)) := (Below.refl _ _).alloc (Nat.le_refl _) _
          replace HRd := Aside0.mk (HRd.out.under hB)
          replace HS := Aside0.mk (Kd.R_below HS.out hB)
          replace HB := Aside0.mk (step_below HB.out hB)
          clear hB
          with_reducible refine (left_r HRd.out (f : Int) rfl (by omega)).mono ?_
          rintro e w' ⟨rfl, hD⟩
          have hB := hD.below
          clear hD
          replace HRd := Aside0.mk (HRd.out.under hB)
          replace HS := Aside0.mk (Kd.R_below HS.out hB)
          replace HB := Aside0.mk (step_below HB.out hB)
          replace HX := Aside0.mk ((hB.block _ (blk_lt HX.out)).trans HX.out)
          clear hB
          try clear hx0 hx1
          have hx0 : World.cell? _ ⟨wr.heap.size, 0, none⟩ = some (.bool false) := blk_cell HX.out 0
          have hx1 : World.cell? _ ⟨wr.heap.size, 1, none⟩ = some (.int .i64 n) := blk_cell HX.out 1
          go_wp2_with fail
          refine (raw_w w.heap.size g s c f A l er n HL.out (by omega) _ (below_size HB.out) HRd.out).mono ?_
          rintro e w' ⟨v, rfl, hRv, hR2, hK⟩
          rw [Z1.out] at hRv
          obtain ⟨Av, cv, rfl, hcv, hCv⟩ := Kd.R_reads hRv
          replace HS := Aside0.mk (R_kp HS.out hK)
          replace HB := Aside0.mk (HB.out.trans hK.b)
          clear HRd
          have HRd := Aside0.mk hR2
          clear hR2 hK
          have HV := Aside0.mk hCv
          clear hRv hCv
          rw [Z2.out, Z3.out] at HRd
          go_wp2_with fail
          with_reducible refine (left_r HRd.out (f : Int) rfl (by omega)).mono ?_
          rintro e w' ⟨rfl, hD⟩
          have hB := hD.below
          clear hD
          replace HRd := Aside0.mk (HRd.out.under hB)
          replace HS := Aside0.mk (Kd.R_below HS.out hB)
          replace HB := Aside0.mk (step_below HB.out hB)
          replace HV := Aside0.mk (Kd.C_below HV.out hB)
          clear hB
          skip
          go_wp2_with fail
          skip
          with_reducible refine (count_c Av 0 cv _ _ ?cC ?cX).mono ?_
          case cC => exact Kd.C_alloc (show Kd.C (Kd.int .u8) _ Av 0 (List.replicate 0 0) from HV.out) _
          case cX => exact (blk_cell (heap_alloc_new _ _) 0)
          rintro e w' ⟨rfl, rfl⟩
          have HRd2 := Aside0.mk (HRd.out.under ((Below.refl _ _).alloc (Nat.le_refl _) (.cells #[.int .u8 0] 5)))
          clear HRd
          have HRd := HRd2
          clear HRd2
          replace HS := Aside0.mk (Kd.R_alloc HS.out (.cells #[.int .u8 0] 5))
          replace HB := Aside0.mk (below_alloc HB.out (.cells #[.int .u8 0] 5))
          clear HV
          obtain ⟨A3, c3, e3, hc3, hC3⟩ := Kd.R_reads HS.out
          rw [show (l.take f).length = f by rw [List.length_take]; omega] at e3 hc3 hC3
          injection e3 with e4 e5 e6
          subst e4
          subst e6
          have HC3 := Aside0.mk hC3
          clear hC3 e5
          go_wp2_with fail
          with_reducible refine (left_r HRd.out (f : Int) rfl (by omega)).mono ?_
          rintro e w' ⟨rfl, hD⟩
          have hB := hD.below
          clear hD
          replace HRd := Aside0.mk (HRd.out.under hB)
          replace HS := Aside0.mk (Kd.R_below HS.out hB)
          replace HB := Aside0.mk (step_below HB.out hB)
          replace HC3 := Aside0.mk (Kd.C_below HC3.out hB)
          clear hB
          skip
          go_wp2_with fail
          with_reducible refine (prefix_c A0 A2 c0 c2 l f _ (Kd.C_below HR0.out HB.out) hc0 HC3.out hc3 HL.out (by omega)).mono ?_
          rintro e w' ⟨rfl, hD⟩
          have hB := hD.below
          clear hD
          replace HRd := Aside0.mk (HRd.out.under hB)
          replace HS := Aside0.mk (Kd.R_below HS.out hB)
          replace HB := Aside0.mk (step_below HB.out hB)
          replace HC3 := Aside0.mk (Kd.C_below HC3.out hB)
          clear hB
          go_wp2
          go_roundw
          case rel => exact ⟨k + 1, f, er, A2, c2, by omega, by simp, rfl, HS, HRd, HB⟩
          case measure => simp [intOf]; omega
      | true =>
        have hj : (IntKind.u64.wrap n).tmod 2 = 0 ∨ (IntKind.u64.wrap n).tmod 2 = 1 := by rw [Int.tmod_eq_emod_of_nonneg (u64_nonneg n)]; omega
        rcases hj with hj | hj
        · skip
          by_cases her : er = 0
          · subst her
            by_cases hsh : (l.length : Int) - f < 2
            · skip
              have z1 : nb l f 0 2 = [] := by unfold nb; rw [if_neg (by omega)]
              have z2 : nf l f 0 2 = f := by unfold nf; rw [if_neg (by omega)]
              have z3 : ne l f 0 2 = 7 := by unfold ne; rw [if_pos rfl, if_neg (by omega), if_pos (by omega)]
              have Z1 := Aside0.mk z1
              clear z1
              have Z2 := Aside0.mk z2
              clear z2
              have Z3 := Aside0.mk z3
              clear z3
              go_wp2_with fail
              have HX := Aside0.mk (heap_alloc_new wr (.cells #[.bool true, .int .i64 n] 44))
              have hB : Below wr.heap.size wr (wr.alloc (.cells #[.bool true, .int .i64 n] 44)) := (Below.refl _ _).alloc (Nat.le_refl _) _
              replace HRd := Aside0.mk (HRd.out.under hB)
              replace HS := Aside0.mk (Kd.R_below HS.out hB)
              replace HB := Aside0.mk (step_below HB.out hB)
              clear hB
              with_reducible refine (left_r HRd.out (f : Int) rfl (by omega)).mono ?_
              rintro e w' ⟨rfl, hD⟩
              have hB := hD.below
              clear hD
              replace HRd := Aside0.mk (HRd.out.under hB)
              replace HS := Aside0.mk (Kd.R_below HS.out hB)
              replace HB := Aside0.mk (step_below HB.out hB)
              replace HX := Aside0.mk ((hB.block _ (blk_lt HX.out)).trans HX.out)
              clear hB
              try clear hx0 hx1
              have hx0 : World.cell? _ ⟨wr.heap.size, 0, none⟩ = some (.bool true) := blk_cell HX.out 0
              have hx1 : World.cell? _ ⟨wr.heap.size, 1, none⟩ = some (.int .i64 n) := blk_cell HX.out 1
              go_wp2_with fail
              obtain ⟨m0, m1, m2⟩ := num_nb HL.out f 0 2 2 rfl (by omega)
              clear m0
              rw [Z1.out] at m1 m2
              simp only [Int.reducePow, Nat.reducePow] at m2
              have hU := u16_w w.heap.size g s c f A l 0 HL.out (by omega) _ (below_size HB.out) HRd.out
              rw [Z1.out] at hU
              have hP := put16_c (num []) m1 m2
              rw [show bs 2 (num []) = List.replicate 2 0 from rfl] at hP
              generalize num [] = x at hU hP m1 m2
              have HU := Aside0.mk hU
              have HP := Aside0.mk hP
              clear hU hP
              refine HU.out.mono ?_
              rintro e w' ⟨rfl, hR2, hK⟩
              replace HS := Aside0.mk (R_kp HS.out hK)
              replace HB := Aside0.mk (HB.out.trans hK.b)
              clear HRd
              have HRd := Aside0.mk hR2
              clear hR2 hK
              go_wp2_with fail
              refine (HP.out _).mono ?_
              rintro e w' ⟨Av, cv, rfl, hcv, hCv, hB⟩
              replace HRd := Aside0.mk (HRd.out.under hB)
              replace HS := Aside0.mk (Kd.R_below HS.out hB)
              replace HB := Aside0.mk (step_below HB.out hB)
              clear hB
              have HV := Aside0.mk hCv
              clear hCv
              rw [Z2.out, Z3.out] at HRd
              go_wp2_with fail
              with_reducible refine (left_r HRd.out (f : Int) rfl (by omega)).mono ?_
              rintro e w' ⟨rfl, hD⟩
              have hB := hD.below
              clear hD
              replace HRd := Aside0.mk (HRd.out.under hB)
              replace HS := Aside0.mk (Kd.R_below HS.out hB)
              replace HB := Aside0.mk (step_below HB.out hB)
              replace HV := Aside0.mk (Kd.C_below HV.out hB)
              clear hB
              skip
              go_wp2_with fail
              skip
              with_reducible refine (count_c Av 2 cv _ _ ?cC ?cX).mono ?_
              case cC => exact Kd.C_alloc HV.out _
              case cX => exact (blk_cell (heap_alloc_new _ _) 0)
              rintro e w' ⟨rfl, rfl⟩
              have HRd2 := Aside0.mk (HRd.out.under ((Below.refl _ _).alloc (Nat.le_refl _) (.cells #[.int .u8 0] 5)))
              clear HRd
              have HRd := HRd2
              clear HRd2
              replace HS := Aside0.mk (Kd.R_alloc HS.out (.cells #[.int .u8 0] 5))
              replace HB := Aside0.mk (below_alloc HB.out (.cells #[.int .u8 0] 5))
              clear HV
              obtain ⟨A3, c3, e3, hc3, hC3⟩ := Kd.R_reads HS.out
              rw [show (l.take f).length = f by rw [List.length_take]; omega] at e3 hc3 hC3
              injection e3 with e4 e5 e6
              subst e4
              subst e6
              have HC3 := Aside0.mk hC3
              clear hC3 e5
              go_wp2_with fail
              with_reducible refine (left_r HRd.out (f : Int) rfl (by omega)).mono ?_
              rintro e w' ⟨rfl, hD⟩
              have hB := hD.below
              clear hD
              replace HRd := Aside0.mk (HRd.out.under hB)
              replace HS := Aside0.mk (Kd.R_below HS.out hB)
              replace HB := Aside0.mk (step_below HB.out hB)
              replace HC3 := Aside0.mk (Kd.C_below HC3.out hB)
              clear hB
              skip
              go_wp2_with fail
              with_reducible refine (prefix_c A0 A2 c0 c2 l f _ (Kd.C_below HR0.out HB.out) hc0 HC3.out hc3 HL.out (by omega)).mono ?_
              rintro e w' ⟨rfl, hD⟩
              have hB := hD.below
              clear hD
              replace HRd := Aside0.mk (HRd.out.under hB)
              replace HS := Aside0.mk (Kd.R_below HS.out hB)
              replace HB := Aside0.mk (step_below HB.out hB)
              replace HC3 := Aside0.mk (Kd.C_below HC3.out hB)
              clear hB
              go_wp2
              go_roundw
              case rel => exact ⟨k + 1, f, 7, A2, c2, by omega, by simp, rfl, HS, HRd, HB⟩
              case measure => simp [intOf]; omega
            · skip
              have z1 : nb l f 0 2 = (l.drop f).take 2 := by unfold nb; rw [if_pos ⟨rfl, by omega, by omega⟩]; rfl
              have z2 : nf l f 0 2 = f + 2 := by unfold nf; rw [if_pos ⟨rfl, by omega, by omega⟩]; rfl
              have z3 : ne l f 0 2 = 0 := by unfold ne; rw [if_pos rfl, if_neg (by omega), if_neg (by omega)]
              have Z1 := Aside0.mk z1
              clear z1
              have Z2 := Aside0.mk z2
              clear z2
              have Z3 := Aside0.mk z3
              clear z3
              go_wp2_with fail
              have HX := Aside0.mk (heap_alloc_new wr (.cells #[.bool true, .int .i64 n] 44))
              have hB : Below wr.heap.size wr (wr.alloc (.cells #[.bool true, .int .i64 n] 44)) := (Below.refl _ _).alloc (Nat.le_refl _) _
              replace HRd := Aside0.mk (HRd.out.under hB)
              replace HS := Aside0.mk (Kd.R_below HS.out hB)
              replace HB := Aside0.mk (step_below HB.out hB)
              clear hB
              with_reducible refine (left_r HRd.out (f : Int) rfl (by omega)).mono ?_
              rintro e w' ⟨rfl, hD⟩
              have hB := hD.below
              clear hD
              replace HRd := Aside0.mk (HRd.out.under hB)
              replace HS := Aside0.mk (Kd.R_below HS.out hB)
              replace HB := Aside0.mk (step_below HB.out hB)
              replace HX := Aside0.mk ((hB.block _ (blk_lt HX.out)).trans HX.out)
              clear hB
              try clear hx0 hx1
              have hx0 : World.cell? _ ⟨wr.heap.size, 0, none⟩ = some (.bool true) := blk_cell HX.out 0
              have hx1 : World.cell? _ ⟨wr.heap.size, 1, none⟩ = some (.int .i64 n) := blk_cell HX.out 1
              go_wp2_with fail
              obtain ⟨m0, m1, m2⟩ := num_nb HL.out f 0 2 2 rfl (by omega)
              clear m0
              rw [Z1.out] at m1 m2
              simp only [Int.reducePow, Nat.reducePow] at m2
              have hU := u16_w w.heap.size g s c f A l 0 HL.out (by omega) _ (below_size HB.out) HRd.out
              rw [Z1.out] at hU
              have hP := put16_c (num ((l.drop f).take 2)) m1 m2
              have e9 := bs_num ((l.drop f).take 2) ((HL.out.drop f).take 2)
              rw [take_len l f 2 (by omega)] at e9
              rw [e9] at hP
              clear e9
              generalize num ((l.drop f).take 2) = x at hU hP m1 m2
              have HU := Aside0.mk hU
              have HP := Aside0.mk hP
              clear hU hP
              refine HU.out.mono ?_
              rintro e w' ⟨rfl, hR2, hK⟩
              replace HS := Aside0.mk (R_kp HS.out hK)
              replace HB := Aside0.mk (HB.out.trans hK.b)
              clear HRd
              have HRd := Aside0.mk hR2
              clear hR2 hK
              go_wp2_with fail
              refine (HP.out _).mono ?_
              rintro e w' ⟨Av, cv, rfl, hcv, hCv, hB⟩
              replace HRd := Aside0.mk (HRd.out.under hB)
              replace HS := Aside0.mk (Kd.R_below HS.out hB)
              replace HB := Aside0.mk (step_below HB.out hB)
              clear hB
              have HV := Aside0.mk hCv
              clear hCv
              rw [Z2.out, Z3.out] at HRd
              go_wp2_with fail
              with_reducible refine (left_r HRd.out ((f : Int) + 2) (by omega) (by omega)).mono ?_
              rintro e w' ⟨rfl, hD⟩
              have hB := hD.below
              clear hD
              replace HRd := Aside0.mk (HRd.out.under hB)
              replace HS := Aside0.mk (Kd.R_below HS.out hB)
              replace HB := Aside0.mk (step_below HB.out hB)
              replace HV := Aside0.mk (Kd.C_below HV.out hB)
              clear hB
              skip
              have HV' := HV
              clear HV
              have HG := Aside0.mk (show g < _ ∧ (0 < l.length → s < _) from ⟨HRd.out.glt, HRd.out.slt⟩)
              go_wp2_with (first | ((with_reducible refine gate_builtin (b := .append) (xs := #[.tmp 55, .tmp 56]) rfl ?_); at_builtin; refine Kd.R_append_rows (Kd.int .u8) (w0 := w) w.heap.size rfl (.tmp 55) (.tmp 56) 22 5 (.int .u8 0) 1 rfl Try.underlying22 PH.info5 rfl (by decide) (by omega) (.slice A2 f c2) (l.take f) ((l.drop f).take 2) _ _ _ (fun b => b ≠ g ∧ (0 < l.length → b ≠ s)) (fun _ => False) ?aE rfl ?aO ?aR (fun _ _ h => h) (fun _ h => h.elim) ?aF ?aB ?aS ?aL ?_; (case aE => rfl); (case aR => exact HV'.out); (case aB => exact HB.out); (case aF => exact (fun k hk => ⟨by have := HG.out.1; omega, fun hp => by have := HG.out.2 hp; omega⟩)); (case aO => exact HS.out); (case aS => exact below_size HB.out); (case aL => simp; omega); intro v2 w5 ho hb hg hat; have HRd2 := Aside0.mk (HRd.out.mv (hg.block g HRd.out.glt (fun e => (HS.out.1 g e.symm).1 rfl)) (fun hp => hg.block s (HRd.out.slt hp) (fun e => (HS.out.1 s e.symm).2 hp rfl))); clear HRd; have HRd := HRd2; clear HRd2; replace HB := Aside0.mk hb; rw [take_more l f 2 (by omega)] at ho; replace HS := Aside0.mk ho; clear ho hb hg hat HG HV'; obtain ⟨A3, c3, e3, hc3, hC3⟩ := Kd.R_reads HS.out; rw [show (l.take (f + 2)).length = (f + 2) by rw [List.length_take]; omega] at e3 hc3 hC3; subst e3; have HC3 := Aside0.mk hC3; clear hC3))
              with_reducible refine (left_r HRd.out ((f : Int) + 2) (by omega) (by omega)).mono ?_
              rintro e w' ⟨rfl, hD⟩
              have hB := hD.below
              clear hD
              replace HRd := Aside0.mk (HRd.out.under hB)
              replace HS := Aside0.mk (Kd.R_below HS.out hB)
              replace HB := Aside0.mk (step_below HB.out hB)
              replace HC3 := Aside0.mk (Kd.C_below HC3.out hB)
              clear hB
              skip
              go_wp2_with fail
              with_reducible refine (prefix_c A0 A3 c0 c3 l (f + 2) _ (Kd.C_below HR0.out HB.out) hc0 HC3.out hc3 HL.out (by omega)).mono ?_
              rintro e w' ⟨rfl, hD⟩
              have hB := hD.below
              clear hD
              replace HRd := Aside0.mk (HRd.out.under hB)
              replace HS := Aside0.mk (Kd.R_below HS.out hB)
              replace HB := Aside0.mk (step_below HB.out hB)
              replace HC3 := Aside0.mk (Kd.C_below HC3.out hB)
              clear hB
              go_wp2
              go_roundw
              case rel => exact ⟨k + 1, (f + 2), 0, A3, c3, by omega, by simp, rfl, HS, HRd, HB⟩
              case measure => simp [intOf]; omega
          · skip
            have z1 : nb l f er 2 = [] := by unfold nb; rw [if_neg (by omega)]
            have z2 : nf l f er 2 = f := by unfold nf; rw [if_neg (by omega)]
            have z3 : ne l f er 2 = er := by unfold ne; rw [if_neg her]
            have Z1 := Aside0.mk z1
            clear z1
            have Z2 := Aside0.mk z2
            clear z2
            have Z3 := Aside0.mk z3
            clear z3
            go_wp2_with fail
            have HX := Aside0.mk (heap_alloc_new wr (.cells #[.bool true, .int .i64 n] 44))
            have hB : Below wr.heap.size wr (wr.alloc (.cells #[.bool true, .int .i64 n] 44)) := (Below.refl _ _).alloc (Nat.le_refl _) _
            replace HRd := Aside0.mk (HRd.out.under hB)
            replace HS := Aside0.mk (Kd.R_below HS.out hB)
            replace HB := Aside0.mk (step_below HB.out hB)
            clear hB
            with_reducible refine (left_r HRd.out (f : Int) rfl (by omega)).mono ?_
            rintro e w' ⟨rfl, hD⟩
            have hB := hD.below
            clear hD
            replace HRd := Aside0.mk (HRd.out.under hB)
            replace HS := Aside0.mk (Kd.R_below HS.out hB)
            replace HB := Aside0.mk (step_below HB.out hB)
            replace HX := Aside0.mk ((hB.block _ (blk_lt HX.out)).trans HX.out)
            clear hB
            try clear hx0 hx1
            have hx0 : World.cell? _ ⟨wr.heap.size, 0, none⟩ = some (.bool true) := blk_cell HX.out 0
            have hx1 : World.cell? _ ⟨wr.heap.size, 1, none⟩ = some (.int .i64 n) := blk_cell HX.out 1
            go_wp2_with fail
            obtain ⟨m0, m1, m2⟩ := num_nb HL.out f er 2 2 rfl (by omega)
            clear m0
            rw [Z1.out] at m1 m2
            simp only [Int.reducePow, Nat.reducePow] at m2
            have hU := u16_w w.heap.size g s c f A l er HL.out (by omega) _ (below_size HB.out) HRd.out
            rw [Z1.out] at hU
            have hP := put16_c (num []) m1 m2
            rw [show bs 2 (num []) = List.replicate 2 0 from rfl] at hP
            generalize num [] = x at hU hP m1 m2
            have HU := Aside0.mk hU
            have HP := Aside0.mk hP
            clear hU hP
            refine HU.out.mono ?_
            rintro e w' ⟨rfl, hR2, hK⟩
            replace HS := Aside0.mk (R_kp HS.out hK)
            replace HB := Aside0.mk (HB.out.trans hK.b)
            clear HRd
            have HRd := Aside0.mk hR2
            clear hR2 hK
            go_wp2_with fail
            refine (HP.out _).mono ?_
            rintro e w' ⟨Av, cv, rfl, hcv, hCv, hB⟩
            replace HRd := Aside0.mk (HRd.out.under hB)
            replace HS := Aside0.mk (Kd.R_below HS.out hB)
            replace HB := Aside0.mk (step_below HB.out hB)
            clear hB
            have HV := Aside0.mk hCv
            clear hCv
            rw [Z2.out, Z3.out] at HRd
            go_wp2_with fail
            with_reducible refine (left_r HRd.out (f : Int) rfl (by omega)).mono ?_
            rintro e w' ⟨rfl, hD⟩
            have hB := hD.below
            clear hD
            replace HRd := Aside0.mk (HRd.out.under hB)
            replace HS := Aside0.mk (Kd.R_below HS.out hB)
            replace HB := Aside0.mk (step_below HB.out hB)
            replace HV := Aside0.mk (Kd.C_below HV.out hB)
            clear hB
            skip
            go_wp2_with fail
            skip
            with_reducible refine (count_c Av 2 cv _ _ ?cC ?cX).mono ?_
            case cC => exact Kd.C_alloc HV.out _
            case cX => exact (blk_cell (heap_alloc_new _ _) 0)
            rintro e w' ⟨rfl, rfl⟩
            have HRd2 := Aside0.mk (HRd.out.under ((Below.refl _ _).alloc (Nat.le_refl _) (.cells #[.int .u8 0] 5)))
            clear HRd
            have HRd := HRd2
            clear HRd2
            replace HS := Aside0.mk (Kd.R_alloc HS.out (.cells #[.int .u8 0] 5))
            replace HB := Aside0.mk (below_alloc HB.out (.cells #[.int .u8 0] 5))
            clear HV
            obtain ⟨A3, c3, e3, hc3, hC3⟩ := Kd.R_reads HS.out
            rw [show (l.take f).length = f by rw [List.length_take]; omega] at e3 hc3 hC3
            injection e3 with e4 e5 e6
            subst e4
            subst e6
            have HC3 := Aside0.mk hC3
            clear hC3 e5
            go_wp2_with fail
            with_reducible refine (left_r HRd.out (f : Int) rfl (by omega)).mono ?_
            rintro e w' ⟨rfl, hD⟩
            have hB := hD.below
            clear hD
            replace HRd := Aside0.mk (HRd.out.under hB)
            replace HS := Aside0.mk (Kd.R_below HS.out hB)
            replace HB := Aside0.mk (step_below HB.out hB)
            replace HC3 := Aside0.mk (Kd.C_below HC3.out hB)
            clear hB
            skip
            go_wp2_with fail
            with_reducible refine (prefix_c A0 A2 c0 c2 l f _ (Kd.C_below HR0.out HB.out) hc0 HC3.out hc3 HL.out (by omega)).mono ?_
            rintro e w' ⟨rfl, hD⟩
            have hB := hD.below
            clear hD
            replace HRd := Aside0.mk (HRd.out.under hB)
            replace HS := Aside0.mk (Kd.R_below HS.out hB)
            replace HB := Aside0.mk (step_below HB.out hB)
            replace HC3 := Aside0.mk (Kd.C_below HC3.out hB)
            clear hB
            go_wp2
            go_roundw
            case rel => exact ⟨k + 1, f, er, A2, c2, by omega, by simp, rfl, HS, HRd, HB⟩
            case measure => simp [intOf]; omega
        · skip
          by_cases her : er = 0
          · subst her
            by_cases hsh : (l.length : Int) - f < 8
            · skip
              have z1 : nb l f 0 8 = [] := by unfold nb; rw [if_neg (by omega)]
              have z2 : nf l f 0 8 = f := by unfold nf; rw [if_neg (by omega)]
              have z3 : ne l f 0 8 = 7 := by unfold ne; rw [if_pos rfl, if_neg (by omega), if_pos (by omega)]
              have Z1 := Aside0.mk z1
              clear z1
              have Z2 := Aside0.mk z2
              clear z2
              have Z3 := Aside0.mk z3
              clear z3
              go_wp2_with fail
              have HX := Aside0.mk (heap_alloc_new wr (.cells #[.bool true, .int .i64 n] 44))
              have hB : Below wr.heap.size wr (wr.alloc (.cells #[.bool true, .int .i64 n] 44)) := (Below.refl _ _).alloc (Nat.le_refl _) _
              replace HRd := Aside0.mk (HRd.out.under hB)
              replace HS := Aside0.mk (Kd.R_below HS.out hB)
              replace HB := Aside0.mk (step_below HB.out hB)
              clear hB
              with_reducible refine (left_r HRd.out (f : Int) rfl (by omega)).mono ?_
              rintro e w' ⟨rfl, hD⟩
              have hB := hD.below
              clear hD
              replace HRd := Aside0.mk (HRd.out.under hB)
              replace HS := Aside0.mk (Kd.R_below HS.out hB)
              replace HB := Aside0.mk (step_below HB.out hB)
              replace HX := Aside0.mk ((hB.block _ (blk_lt HX.out)).trans HX.out)
              clear hB
              try clear hx0 hx1
              have hx0 : World.cell? _ ⟨wr.heap.size, 0, none⟩ = some (.bool true) := blk_cell HX.out 0
              have hx1 : World.cell? _ ⟨wr.heap.size, 1, none⟩ = some (.int .i64 n) := blk_cell HX.out 1
              go_wp2_with fail
              obtain ⟨m0, m1, m2⟩ := num_nb HL.out f 0 8 8 rfl (by omega)
              clear m0
              rw [Z1.out] at m1 m2
              simp only [Int.reducePow, Nat.reducePow] at m2
              have hU := u64_w w.heap.size g s c f A l 0 HL.out (by omega) _ (below_size HB.out) HRd.out
              rw [Z1.out] at hU
              have hP := put64_c (num []) m1 m2
              rw [show bs 8 (num []) = List.replicate 8 0 from rfl] at hP
              generalize num [] = x at hU hP m1 m2
              have HU := Aside0.mk hU
              have HP := Aside0.mk hP
              clear hU hP
              refine HU.out.mono ?_
              rintro e w' ⟨rfl, hR2, hK⟩
              replace HS := Aside0.mk (R_kp HS.out hK)
              replace HB := Aside0.mk (HB.out.trans hK.b)
              clear HRd
              have HRd := Aside0.mk hR2
              clear hR2 hK
              go_wp2_with fail
              refine (HP.out _).mono ?_
              rintro e w' ⟨Av, cv, rfl, hcv, hCv, hB⟩
              replace HRd := Aside0.mk (HRd.out.under hB)
              replace HS := Aside0.mk (Kd.R_below HS.out hB)
              replace HB := Aside0.mk (step_below HB.out hB)
              clear hB
              have HV := Aside0.mk hCv
              clear hCv
              rw [Z2.out, Z3.out] at HRd
              go_wp2_with fail
              with_reducible refine (left_r HRd.out (f : Int) rfl (by omega)).mono ?_
              rintro e w' ⟨rfl, hD⟩
              have hB := hD.below
              clear hD
              replace HRd := Aside0.mk (HRd.out.under hB)
              replace HS := Aside0.mk (Kd.R_below HS.out hB)
              replace HB := Aside0.mk (step_below HB.out hB)
              replace HV := Aside0.mk (Kd.C_below HV.out hB)
              clear hB
              skip
              go_wp2_with fail
              skip
              with_reducible refine (count_c Av 8 cv _ _ ?cC ?cX).mono ?_
              case cC => exact Kd.C_alloc HV.out _
              case cX => exact (blk_cell (heap_alloc_new _ _) 0)
              rintro e w' ⟨rfl, rfl⟩
              have HRd2 := Aside0.mk (HRd.out.under ((Below.refl _ _).alloc (Nat.le_refl _) (.cells #[.int .u8 0] 5)))
              clear HRd
              have HRd := HRd2
              clear HRd2
              replace HS := Aside0.mk (Kd.R_alloc HS.out (.cells #[.int .u8 0] 5))
              replace HB := Aside0.mk (below_alloc HB.out (.cells #[.int .u8 0] 5))
              clear HV
              obtain ⟨A3, c3, e3, hc3, hC3⟩ := Kd.R_reads HS.out
              rw [show (l.take f).length = f by rw [List.length_take]; omega] at e3 hc3 hC3
              injection e3 with e4 e5 e6
              subst e4
              subst e6
              have HC3 := Aside0.mk hC3
              clear hC3 e5
              go_wp2_with fail
              with_reducible refine (left_r HRd.out (f : Int) rfl (by omega)).mono ?_
              rintro e w' ⟨rfl, hD⟩
              have hB := hD.below
              clear hD
              replace HRd := Aside0.mk (HRd.out.under hB)
              replace HS := Aside0.mk (Kd.R_below HS.out hB)
              replace HB := Aside0.mk (step_below HB.out hB)
              replace HC3 := Aside0.mk (Kd.C_below HC3.out hB)
              clear hB
              skip
              go_wp2_with fail
              with_reducible refine (prefix_c A0 A2 c0 c2 l f _ (Kd.C_below HR0.out HB.out) hc0 HC3.out hc3 HL.out (by omega)).mono ?_
              rintro e w' ⟨rfl, hD⟩
              have hB := hD.below
              clear hD
              replace HRd := Aside0.mk (HRd.out.under hB)
              replace HS := Aside0.mk (Kd.R_below HS.out hB)
              replace HB := Aside0.mk (step_below HB.out hB)
              replace HC3 := Aside0.mk (Kd.C_below HC3.out hB)
              clear hB
              go_wp2
              go_roundw
              case rel => exact ⟨k + 1, f, 7, A2, c2, by omega, by simp, rfl, HS, HRd, HB⟩
              case measure => simp [intOf]; omega
            · skip
              have z1 : nb l f 0 8 = (l.drop f).take 8 := by unfold nb; rw [if_pos ⟨rfl, by omega, by omega⟩]; rfl
              have z2 : nf l f 0 8 = f + 8 := by unfold nf; rw [if_pos ⟨rfl, by omega, by omega⟩]; rfl
              have z3 : ne l f 0 8 = 0 := by unfold ne; rw [if_pos rfl, if_neg (by omega), if_neg (by omega)]
              have Z1 := Aside0.mk z1
              clear z1
              have Z2 := Aside0.mk z2
              clear z2
              have Z3 := Aside0.mk z3
              clear z3
              go_wp2_with fail
              have HX := Aside0.mk (heap_alloc_new wr (.cells #[.bool true, .int .i64 n] 44))
              have hB : Below wr.heap.size wr (wr.alloc (.cells #[.bool true, .int .i64 n] 44)) := (Below.refl _ _).alloc (Nat.le_refl _) _
              replace HRd := Aside0.mk (HRd.out.under hB)
              replace HS := Aside0.mk (Kd.R_below HS.out hB)
              replace HB := Aside0.mk (step_below HB.out hB)
              clear hB
              with_reducible refine (left_r HRd.out (f : Int) rfl (by omega)).mono ?_
              rintro e w' ⟨rfl, hD⟩
              have hB := hD.below
              clear hD
              replace HRd := Aside0.mk (HRd.out.under hB)
              replace HS := Aside0.mk (Kd.R_below HS.out hB)
              replace HB := Aside0.mk (step_below HB.out hB)
              replace HX := Aside0.mk ((hB.block _ (blk_lt HX.out)).trans HX.out)
              clear hB
              try clear hx0 hx1
              have hx0 : World.cell? _ ⟨wr.heap.size, 0, none⟩ = some (.bool true) := blk_cell HX.out 0
              have hx1 : World.cell? _ ⟨wr.heap.size, 1, none⟩ = some (.int .i64 n) := blk_cell HX.out 1
              go_wp2_with fail
              obtain ⟨m0, m1, m2⟩ := num_nb HL.out f 0 8 8 rfl (by omega)
              clear m0
              rw [Z1.out] at m1 m2
              simp only [Int.reducePow, Nat.reducePow] at m2
              have hU := u64_w w.heap.size g s c f A l 0 HL.out (by omega) _ (below_size HB.out) HRd.out
              rw [Z1.out] at hU
              have hP := put64_c (num ((l.drop f).take 8)) m1 m2
              have e9 := bs_num ((l.drop f).take 8) ((HL.out.drop f).take 8)
              rw [take_len l f 8 (by omega)] at e9
              rw [e9] at hP
              clear e9
              generalize num ((l.drop f).take 8) = x at hU hP m1 m2
              have HU := Aside0.mk hU
              have HP := Aside0.mk hP
              clear hU hP
              refine HU.out.mono ?_
              rintro e w' ⟨rfl, hR2, hK⟩
              replace HS := Aside0.mk (R_kp HS.out hK)
              replace HB := Aside0.mk (HB.out.trans hK.b)
              clear HRd
              have HRd := Aside0.mk hR2
              clear hR2 hK
              go_wp2_with fail
              refine (HP.out _).mono ?_
              rintro e w' ⟨Av, cv, rfl, hcv, hCv, hB⟩
              replace HRd := Aside0.mk (HRd.out.under hB)
              replace HS := Aside0.mk (Kd.R_below HS.out hB)
              replace HB := Aside0.mk (step_below HB.out hB)
              clear hB
              have HV := Aside0.mk hCv
              clear hCv
              rw [Z2.out, Z3.out] at HRd
              go_wp2_with fail
              with_reducible refine (left_r HRd.out ((f : Int) + 8) (by omega) (by omega)).mono ?_
              rintro e w' ⟨rfl, hD⟩
              have hB := hD.below
              clear hD
              replace HRd := Aside0.mk (HRd.out.under hB)
              replace HS := Aside0.mk (Kd.R_below HS.out hB)
              replace HB := Aside0.mk (step_below HB.out hB)
              replace HV := Aside0.mk (Kd.C_below HV.out hB)
              clear hB
              skip
              have HV' := HV
              clear HV
              have HG := Aside0.mk (show g < _ ∧ (0 < l.length → s < _) from ⟨HRd.out.glt, HRd.out.slt⟩)
              go_wp2_with (first | ((with_reducible refine gate_builtin (b := .append) (xs := #[.tmp 55, .tmp 56]) rfl ?_); at_builtin; refine Kd.R_append_rows (Kd.int .u8) (w0 := w) w.heap.size rfl (.tmp 55) (.tmp 56) 22 5 (.int .u8 0) 1 rfl Try.underlying22 PH.info5 rfl (by decide) (by omega) (.slice A2 f c2) (l.take f) ((l.drop f).take 8) _ _ _ (fun b => b ≠ g ∧ (0 < l.length → b ≠ s)) (fun _ => False) ?aE rfl ?aO ?aR (fun _ _ h => h) (fun _ h => h.elim) ?aF ?aB ?aS ?aL ?_; (case aE => rfl); (case aR => exact HV'.out); (case aB => exact HB.out); (case aF => exact (fun k hk => ⟨by have := HG.out.1; omega, fun hp => by have := HG.out.2 hp; omega⟩)); (case aO => exact HS.out); (case aS => exact below_size HB.out); (case aL => simp; omega); intro v2 w5 ho hb hg hat; have HRd2 := Aside0.mk (HRd.out.mv (hg.block g HRd.out.glt (fun e => (HS.out.1 g e.symm).1 rfl)) (fun hp => hg.block s (HRd.out.slt hp) (fun e => (HS.out.1 s e.symm).2 hp rfl))); clear HRd; have HRd := HRd2; clear HRd2; replace HB := Aside0.mk hb; rw [take_more l f 8 (by omega)] at ho; replace HS := Aside0.mk ho; clear ho hb hg hat HG HV'; obtain ⟨A3, c3, e3, hc3, hC3⟩ := Kd.R_reads HS.out; rw [show (l.take (f + 8)).length = (f + 8) by rw [List.length_take]; omega] at e3 hc3 hC3; subst e3; have HC3 := Aside0.mk hC3; clear hC3))
              with_reducible refine (left_r HRd.out ((f : Int) + 8) (by omega) (by omega)).mono ?_
              rintro e w' ⟨rfl, hD⟩
              have hB := hD.below
              clear hD
              replace HRd := Aside0.mk (HRd.out.under hB)
              replace HS := Aside0.mk (Kd.R_below HS.out hB)
              replace HB := Aside0.mk (step_below HB.out hB)
              replace HC3 := Aside0.mk (Kd.C_below HC3.out hB)
              clear hB
              skip
              go_wp2_with fail
              with_reducible refine (prefix_c A0 A3 c0 c3 l (f + 8) _ (Kd.C_below HR0.out HB.out) hc0 HC3.out hc3 HL.out (by omega)).mono ?_
              rintro e w' ⟨rfl, hD⟩
              have hB := hD.below
              clear hD
              replace HRd := Aside0.mk (HRd.out.under hB)
              replace HS := Aside0.mk (Kd.R_below HS.out hB)
              replace HB := Aside0.mk (step_below HB.out hB)
              replace HC3 := Aside0.mk (Kd.C_below HC3.out hB)
              clear hB
              go_wp2
              go_roundw
              case rel => exact ⟨k + 1, (f + 8), 0, A3, c3, by omega, by simp, rfl, HS, HRd, HB⟩
              case measure => simp [intOf]; omega
          · skip
            have z1 : nb l f er 8 = [] := by unfold nb; rw [if_neg (by omega)]
            have z2 : nf l f er 8 = f := by unfold nf; rw [if_neg (by omega)]
            have z3 : ne l f er 8 = er := by unfold ne; rw [if_neg her]
            have Z1 := Aside0.mk z1
            clear z1
            have Z2 := Aside0.mk z2
            clear z2
            have Z3 := Aside0.mk z3
            clear z3
            go_wp2_with fail
            have HX := Aside0.mk (heap_alloc_new wr (.cells #[.bool true, .int .i64 n] 44))
            have hB : Below wr.heap.size wr (wr.alloc (.cells #[.bool true, .int .i64 n] 44)) := (Below.refl _ _).alloc (Nat.le_refl _) _
            replace HRd := Aside0.mk (HRd.out.under hB)
            replace HS := Aside0.mk (Kd.R_below HS.out hB)
            replace HB := Aside0.mk (step_below HB.out hB)
            clear hB
            with_reducible refine (left_r HRd.out (f : Int) rfl (by omega)).mono ?_
            rintro e w' ⟨rfl, hD⟩
            have hB := hD.below
            clear hD
            replace HRd := Aside0.mk (HRd.out.under hB)
            replace HS := Aside0.mk (Kd.R_below HS.out hB)
            replace HB := Aside0.mk (step_below HB.out hB)
            replace HX := Aside0.mk ((hB.block _ (blk_lt HX.out)).trans HX.out)
            clear hB
            try clear hx0 hx1
            have hx0 : World.cell? _ ⟨wr.heap.size, 0, none⟩ = some (.bool true) := blk_cell HX.out 0
            have hx1 : World.cell? _ ⟨wr.heap.size, 1, none⟩ = some (.int .i64 n) := blk_cell HX.out 1
            go_wp2_with fail
            obtain ⟨m0, m1, m2⟩ := num_nb HL.out f er 8 8 rfl (by omega)
            clear m0
            rw [Z1.out] at m1 m2
            simp only [Int.reducePow, Nat.reducePow] at m2
            have hU := u64_w w.heap.size g s c f A l er HL.out (by omega) _ (below_size HB.out) HRd.out
            rw [Z1.out] at hU
            have hP := put64_c (num []) m1 m2
            rw [show bs 8 (num []) = List.replicate 8 0 from rfl] at hP
            generalize num [] = x at hU hP m1 m2
            have HU := Aside0.mk hU
            have HP := Aside0.mk hP
            clear hU hP
            refine HU.out.mono ?_
            rintro e w' ⟨rfl, hR2, hK⟩
            replace HS := Aside0.mk (R_kp HS.out hK)
            replace HB := Aside0.mk (HB.out.trans hK.b)
            clear HRd
            have HRd := Aside0.mk hR2
            clear hR2 hK
            go_wp2_with fail
            refine (HP.out _).mono ?_
            rintro e w' ⟨Av, cv, rfl, hcv, hCv, hB⟩
            replace HRd := Aside0.mk (HRd.out.under hB)
            replace HS := Aside0.mk (Kd.R_below HS.out hB)
            replace HB := Aside0.mk (step_below HB.out hB)
            clear hB
            have HV := Aside0.mk hCv
            clear hCv
            rw [Z2.out, Z3.out] at HRd
            go_wp2_with fail
            with_reducible refine (left_r HRd.out (f : Int) rfl (by omega)).mono ?_
            rintro e w' ⟨rfl, hD⟩
            have hB := hD.below
            clear hD
            replace HRd := Aside0.mk (HRd.out.under hB)
            replace HS := Aside0.mk (Kd.R_below HS.out hB)
            replace HB := Aside0.mk (step_below HB.out hB)
            replace HV := Aside0.mk (Kd.C_below HV.out hB)
            clear hB
            skip
            go_wp2_with fail
            skip
            with_reducible refine (count_c Av 8 cv _ _ ?cC ?cX).mono ?_
            case cC => exact Kd.C_alloc HV.out _
            case cX => exact (blk_cell (heap_alloc_new _ _) 0)
            rintro e w' ⟨rfl, rfl⟩
            have HRd2 := Aside0.mk (HRd.out.under ((Below.refl _ _).alloc (Nat.le_refl _) (.cells #[.int .u8 0] 5)))
            clear HRd
            have HRd := HRd2
            clear HRd2
            replace HS := Aside0.mk (Kd.R_alloc HS.out (.cells #[.int .u8 0] 5))
            replace HB := Aside0.mk (below_alloc HB.out (.cells #[.int .u8 0] 5))
            clear HV
            obtain ⟨A3, c3, e3, hc3, hC3⟩ := Kd.R_reads HS.out
            rw [show (l.take f).length = f by rw [List.length_take]; omega] at e3 hc3 hC3
            injection e3 with e4 e5 e6
            subst e4
            subst e6
            have HC3 := Aside0.mk hC3
            clear hC3 e5
            go_wp2_with fail
            with_reducible refine (left_r HRd.out (f : Int) rfl (by omega)).mono ?_
            rintro e w' ⟨rfl, hD⟩
            have hB := hD.below
            clear hD
            replace HRd := Aside0.mk (HRd.out.under hB)
            replace HS := Aside0.mk (Kd.R_below HS.out hB)
            replace HB := Aside0.mk (step_below HB.out hB)
            replace HC3 := Aside0.mk (Kd.C_below HC3.out hB)
            clear hB
            skip
            go_wp2_with fail
            with_reducible refine (prefix_c A0 A2 c0 c2 l f _ (Kd.C_below HR0.out HB.out) hc0 HC3.out hc3 HL.out (by omega)).mono ?_
            rintro e w' ⟨rfl, hD⟩
            have hB := hD.below
            clear hD
            replace HRd := Aside0.mk (HRd.out.under hB)
            replace HS := Aside0.mk (Kd.R_below HS.out hB)
            replace HB := Aside0.mk (step_below HB.out hB)
            replace HC3 := Aside0.mk (Kd.C_below HC3.out hB)
            clear hB
            go_wp2
            go_roundw
            case rel => exact ⟨k + 1, f, er, A2, c2, by omega, by simp, rfl, HS, HRd, HB⟩
            case measure => simp [intOf]; omega
    · obtain rfl : k = ls.length := by omega
      go_wp2
      go_ret
      exact ⟨rfl, HB.out⟩
end Go.Proofs.Ytpejeeemefmafaa.RD
