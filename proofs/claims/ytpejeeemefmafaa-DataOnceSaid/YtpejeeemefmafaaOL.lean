import Derived.Test.YtpejeeemefmafaaON
import Derived.Outline
namespace Go.Proofs.Ytpejeeemefmafaa.RD
open Go.RowKit Go.Proofs.YtpejeeemefmafaaW.PrintWords Go.Proofs.YtpejeeemefmafaaW.PrintLast Go.Proofs.YtpejeeemefmafaaW.PrintMore
open Go.Proofs.Ytpejeeemefmafaa.PE.L (below_drewN' below_drew')
open PH
set_option linter.unusedVariables false
set_option linter.unusedSimpArgs false
theorem R_putk {W : World} {base b n cap : Nat} {ok : Nat → Prop} {xs : List Int} (h : Kd.R (Kd.int .u8) 5 W base ok (.slice (some ⟨b, 0, none⟩) n cap) xs) (k : Nat) (v : Int) : Kd.R (Kd.int .u8) 5 (W.setCell ⟨b, k, none⟩ (.int .u8 v)) base ok (.slice (some ⟨b, 0, none⟩) n cap) (xs.set k v) := by
  have h' := Kd.R_putn h (k : Int) v
  simp only [Int.toNat_natCast] at h'
  exact h'
theorem u64_nonneg (n : Int) : 0 ≤ IntKind.u64.wrap n := by
  simp only [IntKind.wrap, IntKind.bits, IntKind.signed]
  exact Int.emod_nonneg _ (by decide)
theorem mid_c (A0 : Option Addr) (c0 : Nat) (l : List Int) (f : Nat) (n : Int) (h0 : 0 ≤ n) (hn : n ≤ (l.length : Int) - f) (hf : f ≤ l.length) (hc : l.length ≤ c0) :
    ∃ A' c', (∀ W : World, (Instr.slice 22 (.slice A0 l.length c0) (some (.int .i64 (f : Int))) (some (.int .i64 ((f : Int) + n))) none).run Try.prog W = .ok (.slice A' (nb l f 0 n).length c') W) ∧ (∀ W : World, Kd.C (Kd.int .u8) W A0 l.length l → Kd.C (Kd.int .u8) W A' (nb l f 0 n).length (nb l f 0 n)) ∧ (nb l f 0 n).length ≤ c' := by
  obtain ⟨i, hi, _, hsz, _⟩ := info_parts PH.info5
  obtain ⟨A', h1, h2, h3⟩ := print_mid_int (P := Try.prog) (k := .u8) 22 5 Try.underlying22 hi hsz A0 c0 l (f : Int) ((f : Int) + n) (by omega) (by omega) (by omega) hc
  have e : ((l.take ((f : Int) + n).toNat).drop (f : Int).toNat) = nb l f 0 n := by
    unfold nb
    rw [if_pos ⟨rfl, h0, hn⟩, show ((f : Int) + n).toNat = f + n.toNat by omega, show (f : Int).toNat = f by omega, List.drop_take]
    congr 1
    omega
  rw [e] at h1 h2 h3
  exact ⟨A', _, h1, fun W hC => Kd.C_of_reads (h2 W (Kd.reads_of_C hC)), h3⟩
theorem nb_bytes {l : List Int} (hl : Bytes l) (f : Nat) (er n : Int) : Bytes (nb l f er n) := by
  unfold nb
  split
  · exact (hl.drop _).take _
  · exact fun j => by simp
theorem nb_le (l : List Int) (f : Nat) (er n : Int) : (nb l f er n).length ≤ l.length := by
  unfold nb
  split
  · simp; omega
  · simp
theorem pow_mono (a d : Nat) : (256 : Int) ^ a ≤ 256 ^ (a + d) := by
  induction d with
  | zero => exact Int.le_refl _
  | succ d ih =>
    have hp : (0 : Int) < 256 ^ (a + d) := Int.pow_pos (by omega)
    rw [show a + (d + 1) = (a + d) + 1 by omega, Int.pow_succ]
    omega
theorem pow_le {a b : Nat} (h : a ≤ b) : (256 : Int) ^ a ≤ 256 ^ b := by
  obtain ⟨d, rfl⟩ := Nat.exists_eq_add_of_le h
  exact pow_mono a d
theorem num_nb {l : List Int} (hl : Bytes l) (f : Nat) (er n : Int) (m : Nat) (hm : n = m) (hn : m ≤ 8) : num (nb l f er n) % 18446744073709551616 = num (nb l f er n) ∧ 0 ≤ num (nb l f er n) ∧ num (nb l f er n) < 256 ^ m := by
  have hb := num_lt (nb_bytes hl f er n)
  have hle : (nb l f er n).length ≤ m := by
    unfold nb
    split
    · simp; omega
    · simp
  have hp := pow_le hle
  have hp8 := pow_le hn
  have : (256 : Int) ^ 8 = 18446744073709551616 := by decide
  refine ⟨Int.emod_eq_of_lt hb.1 (by omega), hb.1, by omega⟩
theorem left_r {n₀ g s c : Nat} {A : Option Addr} {l : List Int} {f : Nat} {er : Int} {W : World} (h : Rdr n₀ g s c A l f er W) (F : Int) (hF : (f : Int) = F) (hl : l.length ≤ 3000) : Calls Try.prog 31 #[.pointer (some ⟨g, 0, none⟩)] W fun e w' => e = .returned (.int .i64 ((l.length : Int) - F)) ∧ Drawn0 W w' := by
  subst hF
  exact PE.L.left_w g A l.length c f W h.c0 h.c1 h.hf (by omega)
set_option maxHeartbeats 16000000 in
set_option maxRecDepth 100000 in
theorem looks_law (A0 : Option Addr) (c0 : Nat) (l : List Int) (A1 : Option Addr) (c1 : Nat) (ls : List S44) (w : World) (hr0 : Kd.C (Kd.int .u8) w A0 l.length l) (hc0 : l.length ≤ c0) (hr1 : Kd.C k44 w A1 ls.length ls) (hc1 : ls.length ≤ c1) (hl : Bytes l) :
    Calls Try.prog 7 #[.slice A0 l.length c0, .slice A1 ls.length c1] w fun e w' => e = .returned (.bool true) ∧ Below w.heap.size w w' := by
  have HL := Aside0.mk hl
  have HR0 := Aside0.mk hr0
  have HR1 := Aside0.mk hr1
  clear hl hr0 hr1
  by_cases h1 : 3000 < l.length
  · have t1 : decide (3000 < (l.length : Int)) = true := decide_eq_true (by omega)
    have t2 : decide (3000 < l.length) = true := decide_eq_true (by omega)
    go_enter Try.func7, Try.ntmps7
    go_wp2_with fail
    refine (PE.L.wakes_w w).mono ?_
    rintro e w1 ⟨rfl, hB⟩
    have HB := Aside0.mk hB
    clear hB
    go_wp2
    go_ret
    exact ⟨rfl, HB.out⟩
  by_cases h2 : 200 < ls.length
  · have t1 : decide (3000 < (l.length : Int)) = false := decide_eq_false (by omega)
    have t2 : decide (3000 < l.length) = false := decide_eq_false (by omega)
    have t3 : decide (200 < (ls.length : Int)) = true := decide_eq_true (by omega)
    have t4 : decide (200 < ls.length) = true := decide_eq_true (by omega)
    go_enter Try.func7, Try.ntmps7
    go_wp2_with fail
    refine (PE.L.wakes_w w).mono ?_
    rintro e w1 ⟨rfl, hB⟩
    have HB := Aside0.mk hB
    clear hB
    go_wp2
    go_ret
    exact ⟨rfl, HB.out⟩
  have t1 : decide (3000 < (l.length : Int)) = false := decide_eq_false (by omega)
  have t2 : decide (3000 < l.length) = false := decide_eq_false (by omega)
  have t3 : decide (200 < (ls.length : Int)) = false := decide_eq_false (by omega)
  have t4 : decide (200 < ls.length) = false := decide_eq_false (by omega)
  go_enter Try.func7, Try.ntmps7
  go_wp2_with fail
  refine (PE.L.wakes_w w).mono ?_
  rintro e w1 ⟨rfl, hB⟩
  have HB := Aside0.mk hB
  clear hB
  go_wp2_with (first | ((with_reducible refine gate_dst (N := 27) rfl ?_); refine Kd.R_lit (Kd.int .u8) _ 5 ?hg (N := 27) ?hd (xs := ([] : List Int)) (inner := []) (ok := fun _ => True) (okp := fun _ => True) ?hr ?hp (fun _ hk => hk) trivial (Below.refl _ _) (Nat.le_refl _) (by simp) ?_; (case hd => rfl); (case hg => rfl); (case hr => first | (go_simp; done) | (go_simp; rfl)); (case hp => exact (Reps.none _ _)); intro v1 w3 ho4 hb hg_ hnew_; have HO := Aside0.mk (Kd.R_lower ho4 (below_size HB.out)); replace HB := Aside0.mk (step_below HB.out hb); clear hg_ hnew_ hb ho4) | ((with_reducible refine gate_builtin (b := .append) (xs := #[.tmp 27, .tmp 28]) rfl ?_); at_builtin; refine Kd.R_append_rows (Kd.int .u8) (w0 := w) w.heap.size rfl (.tmp 27) (.tmp 28) 22 5 (.int .u8 0) 1 rfl Try.underlying22 PH.info5 rfl (by decide) (by omega) v1 [] l _ _ _ (fun _ => True) (fun _ => False) rfl rfl ?aO ?aR (fun _ _ h => h) (fun _ h => h.elim) ?aF ?aB ?aS ?aL ?_; (case aR => exact Kd.C_below HR0.out HB.out); (case aB => exact HB.out); (case aF => exact (fun _ _ => trivial)); (case aO => exact HO.out); (case aS => exact below_size HB.out); (case aL => simp; omega); intro v2 w5 ho hb hg hat; rw [List.nil_append] at ho; replace HB := Aside0.mk hb; replace HO := Aside0.mk ho; clear ho hb hg hat))
  obtain ⟨Ao, co, rfl, hco, hCo⟩ := Kd.R_reads HO.out
  refine (read_c Ao l.length co l _ hCo hco (by omega)).mono ?_
  rintro e w6 ⟨g, s, c, A, rfl, hR, hB, hs5⟩
  have HN := Aside0.mk (show ∀ b cc, (Value.slice Ao l.length co) = .slice (some ⟨b, 0, none⟩) l.length cc → b ≠ g ∧ b ≠ s ∧ w.heap.size ≤ b from fun b cc e => by
    have q1 := Kd.R_lt HO.out b (by rw [e]; rfl)
    have q2 := Kd.R_base HO.out b (by rw [e]; rfl)
    have q3 := hR.hg
    omega)
  have HRd := Aside0.mk (hR.base (n₀ := w.heap.size) (below_size HB.out))
  replace HO := Aside0.mk (Kd.R_below HO.out hB)
  replace HB := Aside0.mk (step_below HB.out hB)
  clear hR hB hCo hs5 hco
  go_wp2_with fail
  go_loopw [34] (fun i wr => ∃ (k : Nat) (ys : List Int), k ≤ l.length ∧ i = .int .i64 k ∧ Aside0 (ys.length = l.length) ∧ Aside0 (Kd.R (Kd.int .u8) 5 wr w.heap.size (fun _ => True) (.slice Ao l.length co) ys) ∧ Aside0 (Rdr w.heap.size g s c A l 0 0 wr) ∧ Aside0 (Below w.heap.size w wr)) (fun i _ => l.length - (intOf i).toNat)
  case atStart => exact ⟨0, l, Nat.zero_le _, rfl, ⟨rfl⟩, HO, HRd, HB⟩
  case round =>
    obtain ⟨k, ys, hk, rfl, hys, hOr, hRr, hBr⟩ := hrel
    clear HO HRd HB
    by_cases hlt : k < l.length
    · obtain ⟨b, cap, e, hb1, hb2, _⟩ := Kd.R_form hOr.out (by rw [hys.out]; omega)
      rw [hys.out] at e
      injection e with e1 e2 e3
      subst e1
      subst e3
      obtain ⟨ng, ns, nb0⟩ := HN.out b co rfl
      obtain ⟨hc, hfz⟩ := Kd.R_celln 0 hOr.out (k : Int) (by omega) (by omega)
      simp only [Int.toNat_natCast] at hc hfz
      have hB2 := hBr.out
      go_wp2
      go_roundw
      case rel => exact ⟨k + 1, _, by omega, by simp, ⟨(List.length_set).trans hys.out⟩, ⟨by exact R_putk hOr.out k _⟩, ⟨hRr.out.mv (Below.heap_setCell _ _ _ _ (fun e => ng e.symm)) (fun _ => Below.heap_setCell _ _ _ _ (fun e => ns e.symm))⟩, ⟨Below.setCell hBr.out nb0 _⟩⟩
      case measure => simp [intOf]; omega
    · obtain rfl : k = l.length := by omega
      clear HN hOr hys
      go_wp2_with fail
      go_loopw [8, 9, 46] (fun v8 v9 v46 wr => ∃ (k f : Nat) (er : Int), k ≤ ls.length ∧ v46 = .int .i64 k ∧ v8 = .int .i64 f ∧ v9 = .int .i64 er ∧ Aside0 (Rdr w.heap.size g s c A l f er wr) ∧ Aside0 (Below w.heap.size w wr)) (fun _ _ v46 _ => ls.length - (intOf v46).toNat)
      case atStart => exact ⟨0, 0, 0, Nat.zero_le _, rfl, rfl, rfl, hRr, hBr⟩
      case round =>
        clear hRr hBr
        obtain ⟨k, f, er, hk, rfl, rfl, rfl, HRd, HB⟩ := hrel
        have hf := HRd.out.hf
        have hgl := HRd.out.glt
        by_cases hlt : k < ls.length
        · obtain ⟨ad, eA, x0, x1⟩ := at_T44 (Kd.C_below HR1.out HB.out) (k : Int) (by omega) (by omega)
          simp only [Int.toNat_natCast] at x0 x1
          obtain ⟨b, n, hx⟩ : ∃ b n, rd_T44 ls k = ⟨b, n⟩ := ⟨_, _, rfl⟩
          rw [hx] at x0 x1
          dsimp only at x0 x1
          clear hx
          subst eA
          have hj : (IntKind.u64.wrap n).tmod 4 = 0 ∨ (IntKind.u64.wrap n).tmod 4 = 1 ∨ (IntKind.u64.wrap n).tmod 4 = 2 ∨ (IntKind.u64.wrap n).tmod 4 = 3 := by rw [Int.tmod_eq_emod_of_nonneg (u64_nonneg n)]; omega
          cases b with
          | false =>
            clear hj
            by_cases her : er = 0
            · subst her
              by_cases hneg : n < 0
              · skip
                have hrc : wicketgateref01_Reach.f (f : Int) n (l.length : Int) = some 2 := by unfold wicketgateref01_Reach.f; rw [if_pos (by omega)]
                have z1 : nb l f 0 n = [] := by unfold nb; rw [if_neg (by omega)]
                have z2 : nf l f 0 n = f := by unfold nf; rw [if_neg (by omega)]
                have z3 : ne l f 0 n = 2 := by unfold ne; rw [if_pos rfl, if_pos (by omega)]
                have Z1 := Aside0.mk z1
                clear z1
                have Z2 := Aside0.mk z2
                clear z2
                have Z3 := Aside0.mk z3
                clear z3
                have HRC := Aside0.mk hrc
                clear hrc
                go_wp2_with fail
                have HX := Aside0.mk (heap_alloc_new wr (.cells #[.bool false, .int .i64 n] 44))
                have hB : Below wr.heap.size wr (wr.alloc (.cells #[.bool false, .int .i64 n] 44)) := (Below.refl _ _).alloc (Nat.le_refl _) _
                replace HRd := Aside0.mk (HRd.out.under hB)
                replace HB := Aside0.mk (step_below HB.out hB)
                clear hB
                refine (reach_c (f : Int) n (l.length : Int) _ _ HRC.out).mono ?_
                rintro e w' ⟨rfl, hD⟩
                have hB := hD.below
                clear hD
                replace HRd := Aside0.mk (HRd.out.under hB)
                replace HB := Aside0.mk (step_below HB.out hB)
                replace HX := Aside0.mk ((hB.block _ (blk_lt HX.out)).trans HX.out)
                clear hB
                try clear hx0
                have hx0 : World.cell? _ ⟨wr.heap.size, 0, none⟩ = some (.bool false) := blk_cell HX.out 0
                go_wp2_with fail
                refine (number_c none 0 0 [] _ (Kd.C_nil _ _) (Nat.le_refl _) (fun j => by simp) (by omega)).mono ?_
                rintro e w' ⟨rfl, hD⟩
                have hB := hD.below
                clear hD
                replace HRd := Aside0.mk (HRd.out.under hB)
                replace HB := Aside0.mk (step_below HB.out hB)
                replace HX := Aside0.mk ((hB.block _ (blk_lt HX.out)).trans HX.out)
                clear hB
                try clear hx0
                have hx0 : World.cell? _ ⟨wr.heap.size, 0, none⟩ = some (.bool false) := blk_cell HX.out 0
                go_wp2_with fail
                refine (raw_w w.heap.size g s c f A l 0 n HL.out (by omega) _ (below_size HB.out) HRd.out).mono ?_
                rintro e w' ⟨v, rfl, hRv, hR2, hK⟩
                obtain ⟨Av, cv, rfl, hcv, hCv⟩ := Kd.R_reads hRv
                rw [Z1.out] at hCv hcv ⊢
                have HCv := Aside0.mk hCv
                clear hRv hCv
                replace HB := Aside0.mk (HB.out.trans hK.b)
                replace HX := Aside0.mk ((hK.k _ (blk_lt HX.out) (by omega)).trans HX.out)
                clear hx0
                have hx0 : World.cell? _ ⟨wr.heap.size, 0, none⟩ = some (.bool false) := blk_cell HX.out 0
                clear HRd
                have HRd := Aside0.mk hR2
                clear hR2 hK
                rw [Z2.out, Z3.out] at HRd
                go_wp2_with fail
                refine (same_c Av none 0 0 cv 0 [] _ HCv.out hcv (Kd.C_nil _ _) (Nat.le_refl _) (by omega)).mono ?_
                rintro e w' ⟨rfl, hD⟩
                have hB := hD.below
                clear hD
                replace HRd := Aside0.mk (HRd.out.under hB)
                replace HB := Aside0.mk (step_below HB.out hB)
                replace HX := Aside0.mk ((hB.block _ (blk_lt HX.out)).trans HX.out)
                clear hB
                try clear hx0
                have hx0 : World.cell? _ ⟨wr.heap.size, 0, none⟩ = some (.bool false) := blk_cell HX.out 0
                go_wp2_with fail
                refine (left_r HRd.out (f : Int) rfl (by omega)).mono ?_
                rintro e w' ⟨rfl, hD⟩
                have hB := hD.below
                clear hD
                replace HRd := Aside0.mk (HRd.out.under hB)
                replace HB := Aside0.mk (step_below HB.out hB)
                replace HX := Aside0.mk ((hB.block _ (blk_lt HX.out)).trans HX.out)
                clear hB
                try clear hx0
                have hx0 : World.cell? _ ⟨wr.heap.size, 0, none⟩ = some (.bool false) := blk_cell HX.out 0
                go_wp2_with fail
                refine (PE.L.err_w g 2 _ HRd.out.c2).mono ?_
                rintro e w' ⟨rfl, hD⟩
                have hB := hD.below
                clear hD
                replace HRd := Aside0.mk (HRd.out.under hB)
                replace HB := Aside0.mk (step_below HB.out hB)
                replace HX := Aside0.mk ((hB.block _ (blk_lt HX.out)).trans HX.out)
                clear hB
                try clear hx0
                have hx0 : World.cell? _ ⟨wr.heap.size, 0, none⟩ = some (.bool false) := blk_cell HX.out 0
                go_wp2
                go_roundw
                case rel => exact ⟨k + 1, f, 2, by omega, by simp, rfl, rfl, HRd, HB⟩
                case measure => simp [intOf]; omega
              · by_cases hsh : (l.length : Int) - f < n
                · skip
                  have hrc : wicketgateref01_Reach.f (f : Int) n (l.length : Int) = some 7 := by unfold wicketgateref01_Reach.f; rw [s_w64 (by omega) (by omega), if_neg (by omega), if_pos (by omega)]
                  have z1 : nb l f 0 n = [] := by unfold nb; rw [if_neg (by omega)]
                  have z2 : nf l f 0 n = f := by unfold nf; rw [if_neg (by omega)]
                  have z3 : ne l f 0 n = 7 := by unfold ne; rw [if_pos rfl, if_neg (by omega), if_pos (by omega)]
                  have Z1 := Aside0.mk z1
                  clear z1
                  have Z2 := Aside0.mk z2
                  clear z2
                  have Z3 := Aside0.mk z3
                  clear z3
                  have HRC := Aside0.mk hrc
                  clear hrc
                  go_wp2_with fail
                  have HX := Aside0.mk (heap_alloc_new wr (.cells #[.bool false, .int .i64 n] 44))
                  have hB : Below wr.heap.size wr (wr.alloc (.cells #[.bool false, .int .i64 n] 44)) := (Below.refl _ _).alloc (Nat.le_refl _) _
                  replace HRd := Aside0.mk (HRd.out.under hB)
                  replace HB := Aside0.mk (step_below HB.out hB)
                  clear hB
                  refine (reach_c (f : Int) n (l.length : Int) _ _ HRC.out).mono ?_
                  rintro e w' ⟨rfl, hD⟩
                  have hB := hD.below
                  clear hD
                  replace HRd := Aside0.mk (HRd.out.under hB)
                  replace HB := Aside0.mk (step_below HB.out hB)
                  replace HX := Aside0.mk ((hB.block _ (blk_lt HX.out)).trans HX.out)
                  clear hB
                  try clear hx0
                  have hx0 : World.cell? _ ⟨wr.heap.size, 0, none⟩ = some (.bool false) := blk_cell HX.out 0
                  go_wp2_with fail
                  refine (number_c none 0 0 [] _ (Kd.C_nil _ _) (Nat.le_refl _) (fun j => by simp) (by omega)).mono ?_
                  rintro e w' ⟨rfl, hD⟩
                  have hB := hD.below
                  clear hD
                  replace HRd := Aside0.mk (HRd.out.under hB)
                  replace HB := Aside0.mk (step_below HB.out hB)
                  replace HX := Aside0.mk ((hB.block _ (blk_lt HX.out)).trans HX.out)
                  clear hB
                  try clear hx0
                  have hx0 : World.cell? _ ⟨wr.heap.size, 0, none⟩ = some (.bool false) := blk_cell HX.out 0
                  go_wp2_with fail
                  refine (raw_w w.heap.size g s c f A l 0 n HL.out (by omega) _ (below_size HB.out) HRd.out).mono ?_
                  rintro e w' ⟨v, rfl, hRv, hR2, hK⟩
                  obtain ⟨Av, cv, rfl, hcv, hCv⟩ := Kd.R_reads hRv
                  rw [Z1.out] at hCv hcv ⊢
                  have HCv := Aside0.mk hCv
                  clear hRv hCv
                  replace HB := Aside0.mk (HB.out.trans hK.b)
                  replace HX := Aside0.mk ((hK.k _ (blk_lt HX.out) (by omega)).trans HX.out)
                  clear hx0
                  have hx0 : World.cell? _ ⟨wr.heap.size, 0, none⟩ = some (.bool false) := blk_cell HX.out 0
                  clear HRd
                  have HRd := Aside0.mk hR2
                  clear hR2 hK
                  rw [Z2.out, Z3.out] at HRd
                  go_wp2_with fail
                  refine (same_c Av none 0 0 cv 0 [] _ HCv.out hcv (Kd.C_nil _ _) (Nat.le_refl _) (by omega)).mono ?_
                  rintro e w' ⟨rfl, hD⟩
                  have hB := hD.below
                  clear hD
                  replace HRd := Aside0.mk (HRd.out.under hB)
                  replace HB := Aside0.mk (step_below HB.out hB)
                  replace HX := Aside0.mk ((hB.block _ (blk_lt HX.out)).trans HX.out)
                  clear hB
                  try clear hx0
                  have hx0 : World.cell? _ ⟨wr.heap.size, 0, none⟩ = some (.bool false) := blk_cell HX.out 0
                  go_wp2_with fail
                  refine (left_r HRd.out (f : Int) rfl (by omega)).mono ?_
                  rintro e w' ⟨rfl, hD⟩
                  have hB := hD.below
                  clear hD
                  replace HRd := Aside0.mk (HRd.out.under hB)
                  replace HB := Aside0.mk (step_below HB.out hB)
                  replace HX := Aside0.mk ((hB.block _ (blk_lt HX.out)).trans HX.out)
                  clear hB
                  try clear hx0
                  have hx0 : World.cell? _ ⟨wr.heap.size, 0, none⟩ = some (.bool false) := blk_cell HX.out 0
                  go_wp2_with fail
                  refine (PE.L.err_w g 7 _ HRd.out.c2).mono ?_
                  rintro e w' ⟨rfl, hD⟩
                  have hB := hD.below
                  clear hD
                  replace HRd := Aside0.mk (HRd.out.under hB)
                  replace HB := Aside0.mk (step_below HB.out hB)
                  replace HX := Aside0.mk ((hB.block _ (blk_lt HX.out)).trans HX.out)
                  clear hB
                  try clear hx0
                  have hx0 : World.cell? _ ⟨wr.heap.size, 0, none⟩ = some (.bool false) := blk_cell HX.out 0
                  go_wp2
                  go_roundw
                  case rel => exact ⟨k + 1, f, 7, by omega, by simp, rfl, rfl, HRd, HB⟩
                  case measure => simp [intOf]; omega
                · skip
                  have hrc : wicketgateref01_Reach.f (f : Int) n (l.length : Int) = some 0 := by unfold wicketgateref01_Reach.f; rw [s_w64 (by omega) (by omega), if_neg (by omega), if_neg (by omega)]
                  have hFF : ((nf l f 0 n : Nat) : Int) = (f : Int) + n := by unfold nf; rw [if_pos ⟨rfl, by omega, by omega⟩]; omega
                  have z3 : ne l f 0 n = 0 := by unfold ne; rw [if_pos rfl, if_neg (by omega), if_neg (by omega)]
                  obtain ⟨Aw, cw, hrun, hrd, hlw⟩ := mid_c A0 c0 l f n (by omega) (by omega) hf hc0
                  have HRD := Aside0.mk hrd
                  clear hrd
                  have hnle := nb_le l f 0 n
                  have HFF := Aside0.mk hFF
                  clear hFF
                  have Z3 := Aside0.mk z3
                  clear z3
                  have HRC := Aside0.mk hrc
                  clear hrc
                  go_wp2_with fail
                  have HX := Aside0.mk (heap_alloc_new wr (.cells #[.bool false, .int .i64 n] 44))
                  have hB : Below wr.heap.size wr (wr.alloc (.cells #[.bool false, .int .i64 n] 44)) := (Below.refl _ _).alloc (Nat.le_refl _) _
                  replace HRd := Aside0.mk (HRd.out.under hB)
                  replace HB := Aside0.mk (step_below HB.out hB)
                  clear hB
                  refine (reach_c (f : Int) n (l.length : Int) _ _ HRC.out).mono ?_
                  rintro e w' ⟨rfl, hD⟩
                  have hB := hD.below
                  clear hD
                  replace HRd := Aside0.mk (HRd.out.under hB)
                  replace HB := Aside0.mk (step_below HB.out hB)
                  replace HX := Aside0.mk ((hB.block _ (blk_lt HX.out)).trans HX.out)
                  clear hB
                  try clear hx0
                  have hx0 : World.cell? _ ⟨wr.heap.size, 0, none⟩ = some (.bool false) := blk_cell HX.out 0
                  go_wp2_with fail
                  refine (number_c Aw (nb l f 0 n).length cw (nb l f 0 n) _ (HRD.out _ (Kd.C_below HR0.out HB.out)) hlw (nb_bytes HL.out _ _ _) (by omega)).mono ?_
                  rintro e w' ⟨rfl, hD⟩
                  have hB := hD.below
                  clear hD
                  replace HRd := Aside0.mk (HRd.out.under hB)
                  replace HB := Aside0.mk (step_below HB.out hB)
                  replace HX := Aside0.mk ((hB.block _ (blk_lt HX.out)).trans HX.out)
                  clear hB
                  try clear hx0
                  have hx0 : World.cell? _ ⟨wr.heap.size, 0, none⟩ = some (.bool false) := blk_cell HX.out 0
                  go_wp2_with fail
                  refine (raw_w w.heap.size g s c f A l 0 n HL.out (by omega) _ (below_size HB.out) HRd.out).mono ?_
                  rintro e w' ⟨v, rfl, hRv, hR2, hK⟩
                  obtain ⟨Av, cv, rfl, hcv, hCv⟩ := Kd.R_reads hRv
                  have HCv := Aside0.mk hCv
                  clear hRv hCv
                  replace HB := Aside0.mk (HB.out.trans hK.b)
                  replace HX := Aside0.mk ((hK.k _ (blk_lt HX.out) (by omega)).trans HX.out)
                  clear hx0
                  have hx0 : World.cell? _ ⟨wr.heap.size, 0, none⟩ = some (.bool false) := blk_cell HX.out 0
                  clear HRd
                  have HRd := Aside0.mk hR2
                  clear hR2 hK
                  rw [Z3.out] at HRd
                  go_wp2_with fail
                  refine (same_c Av Aw _ _ cv cw _ _ HCv.out hcv (HRD.out _ (Kd.C_below HR0.out HB.out)) hlw (by omega)).mono ?_
                  rintro e w' ⟨rfl, hD⟩
                  have hB := hD.below
                  clear hD
                  replace HRd := Aside0.mk (HRd.out.under hB)
                  replace HB := Aside0.mk (step_below HB.out hB)
                  replace HX := Aside0.mk ((hB.block _ (blk_lt HX.out)).trans HX.out)
                  clear hB
                  try clear hx0
                  have hx0 : World.cell? _ ⟨wr.heap.size, 0, none⟩ = some (.bool false) := blk_cell HX.out 0
                  go_wp2_with fail
                  refine (left_r HRd.out ((f : Int) + n) HFF.out (by omega)).mono ?_
                  rintro e w' ⟨rfl, hD⟩
                  have hB := hD.below
                  clear hD
                  replace HRd := Aside0.mk (HRd.out.under hB)
                  replace HB := Aside0.mk (step_below HB.out hB)
                  replace HX := Aside0.mk ((hB.block _ (blk_lt HX.out)).trans HX.out)
                  clear hB
                  try clear hx0
                  have hx0 : World.cell? _ ⟨wr.heap.size, 0, none⟩ = some (.bool false) := blk_cell HX.out 0
                  go_wp2_with fail
                  refine (PE.L.err_w g 0 _ HRd.out.c2).mono ?_
                  rintro e w' ⟨rfl, hD⟩
                  have hB := hD.below
                  clear hD
                  replace HRd := Aside0.mk (HRd.out.under hB)
                  replace HB := Aside0.mk (step_below HB.out hB)
                  replace HX := Aside0.mk ((hB.block _ (blk_lt HX.out)).trans HX.out)
                  clear hB
                  try clear hx0
                  have hx0 : World.cell? _ ⟨wr.heap.size, 0, none⟩ = some (.bool false) := blk_cell HX.out 0
                  go_wp2
                  go_roundw
                  case rel => exact ⟨k + 1, nf l f 0 n, 0, by omega, by simp, congrArg (Value.int .i64) HFF.out.symm, rfl, HRd, HB⟩
                  case measure => simp [intOf]; omega
            · skip
              have e1 : (er == 0) = false := by simpa using her
              have e2 : (er != 0) = true := by simpa using her
              have z1 : nb l f er n = [] := by unfold nb; rw [if_neg (by omega)]
              have z2 : nf l f er n = f := by unfold nf; rw [if_neg (by omega)]
              have z3 : ne l f er n = er := by unfold ne; rw [if_neg her]
              have Z1 := Aside0.mk z1
              clear z1
              have Z2 := Aside0.mk z2
              clear z2
              have Z3 := Aside0.mk z3
              clear z3
              go_wp2_with fail
              have HX := Aside0.mk (heap_alloc_new wr (.cells #[.bool false, .int .i64 n] 44))
              have hB : Below wr.heap.size wr (wr.alloc (.cells #[.bool false, .int .i64 n] 44)) := (Below.refl _ _).alloc (Nat.le_refl _) _
              replace HRd := Aside0.mk (HRd.out.under hB)
              replace HB := Aside0.mk (step_below HB.out hB)
              clear hB
              refine (number_c none 0 0 [] _ (Kd.C_nil _ _) (Nat.le_refl _) (fun j => by simp) (by omega)).mono ?_
              rintro e w' ⟨rfl, hD⟩
              have hB := hD.below
              clear hD
              replace HRd := Aside0.mk (HRd.out.under hB)
              replace HB := Aside0.mk (step_below HB.out hB)
              replace HX := Aside0.mk ((hB.block _ (blk_lt HX.out)).trans HX.out)
              clear hB
              try clear hx0
              have hx0 : World.cell? _ ⟨wr.heap.size, 0, none⟩ = some (.bool false) := blk_cell HX.out 0
              go_wp2_with fail
              refine (raw_w w.heap.size g s c f A l er n HL.out (by omega) _ (below_size HB.out) HRd.out).mono ?_
              rintro e w' ⟨v, rfl, hRv, hR2, hK⟩
              obtain ⟨Av, cv, rfl, hcv, hCv⟩ := Kd.R_reads hRv
              rw [Z1.out] at hCv hcv ⊢
              have HCv := Aside0.mk hCv
              clear hRv hCv
              replace HB := Aside0.mk (HB.out.trans hK.b)
              replace HX := Aside0.mk ((hK.k _ (blk_lt HX.out) (by omega)).trans HX.out)
              clear hx0
              have hx0 : World.cell? _ ⟨wr.heap.size, 0, none⟩ = some (.bool false) := blk_cell HX.out 0
              clear HRd
              have HRd := Aside0.mk hR2
              clear hR2 hK
              rw [Z2.out, Z3.out] at HRd
              go_wp2_with fail
              refine (same_c Av none 0 0 cv 0 [] _ HCv.out hcv (Kd.C_nil _ _) (Nat.le_refl _) (by omega)).mono ?_
              rintro e w' ⟨rfl, hD⟩
              have hB := hD.below
              clear hD
              replace HRd := Aside0.mk (HRd.out.under hB)
              replace HB := Aside0.mk (step_below HB.out hB)
              replace HX := Aside0.mk ((hB.block _ (blk_lt HX.out)).trans HX.out)
              clear hB
              try clear hx0
              have hx0 : World.cell? _ ⟨wr.heap.size, 0, none⟩ = some (.bool false) := blk_cell HX.out 0
              go_wp2_with fail
              refine (left_r HRd.out (f : Int) rfl (by omega)).mono ?_
              rintro e w' ⟨rfl, hD⟩
              have hB := hD.below
              clear hD
              replace HRd := Aside0.mk (HRd.out.under hB)
              replace HB := Aside0.mk (step_below HB.out hB)
              replace HX := Aside0.mk ((hB.block _ (blk_lt HX.out)).trans HX.out)
              clear hB
              try clear hx0
              have hx0 : World.cell? _ ⟨wr.heap.size, 0, none⟩ = some (.bool false) := blk_cell HX.out 0
              go_wp2_with fail
              refine (PE.L.err_w g er _ HRd.out.c2).mono ?_
              rintro e w' ⟨rfl, hD⟩
              have hB := hD.below
              clear hD
              replace HRd := Aside0.mk (HRd.out.under hB)
              replace HB := Aside0.mk (step_below HB.out hB)
              replace HX := Aside0.mk ((hB.block _ (blk_lt HX.out)).trans HX.out)
              clear hB
              try clear hx0
              have hx0 : World.cell? _ ⟨wr.heap.size, 0, none⟩ = some (.bool false) := blk_cell HX.out 0
              go_wp2
              go_roundw
              case rel => exact ⟨k + 1, f, er, by omega, by simp, rfl, rfl, HRd, HB⟩
              case measure => simp [intOf]; omega
          | true =>
            rcases hj with hj | hj | hj | hj
            · skip
              by_cases her : er = 0
              · subst her
                by_cases hsh : (l.length : Int) - f < 1
                · skip
                  have hrc : wicketgateref01_Reach.f (f : Int) 1 (l.length : Int) = some 7 := by unfold wicketgateref01_Reach.f; rw [s_w64 (by omega) (by omega), if_neg (by omega), if_pos (by omega)]
                  have z1 : nb l f 0 1 = [] := by unfold nb; rw [if_neg (by omega)]
                  have z2 : nf l f 0 1 = f := by unfold nf; rw [if_neg (by omega)]
                  have z3 : ne l f 0 1 = 7 := by unfold ne; rw [if_pos rfl, if_neg (by omega), if_pos (by omega)]
                  have Z1 := Aside0.mk z1
                  clear z1
                  have Z2 := Aside0.mk z2
                  clear z2
                  have Z3 := Aside0.mk z3
                  clear z3
                  have HRC := Aside0.mk hrc
                  clear hrc
                  go_wp2_with fail
                  have HX := Aside0.mk (heap_alloc_new wr (.cells #[.bool true, .int .i64 n] 44))
                  have hB : Below wr.heap.size wr (wr.alloc (.cells #[.bool true, .int .i64 n] 44)) := (Below.refl _ _).alloc (Nat.le_refl _) _
                  replace HRd := Aside0.mk (HRd.out.under hB)
                  replace HB := Aside0.mk (step_below HB.out hB)
                  clear hB
                  refine (reach_c (f : Int) 1 (l.length : Int) _ _ HRC.out).mono ?_
                  rintro e w' ⟨rfl, hD⟩
                  have hB := hD.below
                  clear hD
                  replace HRd := Aside0.mk (HRd.out.under hB)
                  replace HB := Aside0.mk (step_below HB.out hB)
                  replace HX := Aside0.mk ((hB.block _ (blk_lt HX.out)).trans HX.out)
                  clear hB
                  try clear hx0
                  have hx0 : World.cell? _ ⟨wr.heap.size, 0, none⟩ = some (.bool true) := blk_cell HX.out 0
                  go_wp2_with fail
                  obtain ⟨m0, m1, m2⟩ := num_nb HL.out f 0 1 1 rfl (by omega)
                  rw [Z1.out] at m0 m1 m2
                  have hN := fun W => number_c none 0 0 [] W (Kd.C_nil _ _) (Nat.le_refl _) (fun j => by simp) (by omega)
                  simp only [m0] at hN
                  have hU := u8_w w.heap.size g s c f A l 0 HL.out (by omega)
                  rw [Z1.out] at hU
                  clear m0
                  simp only [Int.reducePow, Nat.reducePow] at m2
                  generalize num [] = x at hN hU m1 m2
                  have HU := Aside0.mk hU
                  clear hU
                  refine (hN _).mono ?_
                  rintro e w' ⟨rfl, hD⟩
                  clear hN
                  have hB := hD.below
                  clear hD
                  replace HRd := Aside0.mk (HRd.out.under hB)
                  replace HB := Aside0.mk (step_below HB.out hB)
                  replace HX := Aside0.mk ((hB.block _ (blk_lt HX.out)).trans HX.out)
                  clear hB
                  try clear hx0
                  have hx0 : World.cell? _ ⟨wr.heap.size, 0, none⟩ = some (.bool true) := blk_cell HX.out 0
                  go_wp2_with fail
                  refine (HU.out _ (below_size HB.out) HRd.out).mono ?_
                  rintro e w' ⟨rfl, hR2, hK⟩
                  replace HB := Aside0.mk (HB.out.trans hK.b)
                  replace HX := Aside0.mk ((hK.k _ (blk_lt HX.out) (by omega)).trans HX.out)
                  clear hx0
                  have hx0 : World.cell? _ ⟨wr.heap.size, 0, none⟩ = some (.bool true) := blk_cell HX.out 0
                  clear HRd
                  have HRd := Aside0.mk hR2
                  clear hR2 hK
                  rw [Z2.out, Z3.out] at HRd
                  go_wp2_with fail
                  refine (left_r HRd.out (f : Int) rfl (by omega)).mono ?_
                  rintro e w' ⟨rfl, hD⟩
                  have hB := hD.below
                  clear hD
                  replace HRd := Aside0.mk (HRd.out.under hB)
                  replace HB := Aside0.mk (step_below HB.out hB)
                  replace HX := Aside0.mk ((hB.block _ (blk_lt HX.out)).trans HX.out)
                  clear hB
                  try clear hx0
                  have hx0 : World.cell? _ ⟨wr.heap.size, 0, none⟩ = some (.bool true) := blk_cell HX.out 0
                  go_wp2_with fail
                  refine (PE.L.err_w g 7 _ HRd.out.c2).mono ?_
                  rintro e w' ⟨rfl, hD⟩
                  have hB := hD.below
                  clear hD
                  replace HRd := Aside0.mk (HRd.out.under hB)
                  replace HB := Aside0.mk (step_below HB.out hB)
                  replace HX := Aside0.mk ((hB.block _ (blk_lt HX.out)).trans HX.out)
                  clear hB
                  try clear hx0
                  have hx0 : World.cell? _ ⟨wr.heap.size, 0, none⟩ = some (.bool true) := blk_cell HX.out 0
                  go_wp2
                  go_roundw
                  case rel => exact ⟨k + 1, f, 7, by omega, by simp, rfl, rfl, HRd, HB⟩
                  case measure => simp [intOf]; omega
                · skip
                  have hrc : wicketgateref01_Reach.f (f : Int) 1 (l.length : Int) = some 0 := by unfold wicketgateref01_Reach.f; rw [s_w64 (by omega) (by omega), if_neg (by omega), if_neg (by omega)]
                  have hFF : ((nf l f 0 1 : Nat) : Int) = (f : Int) + 1 := by unfold nf; rw [if_pos ⟨rfl, by omega, by omega⟩]; omega
                  have z3 : ne l f 0 1 = 0 := by unfold ne; rw [if_pos rfl, if_neg (by omega), if_neg (by omega)]
                  obtain ⟨Aw, cw, hrun, hrd, hlw⟩ := mid_c A0 c0 l f 1 (by omega) (by omega) hf hc0
                  have HRD := Aside0.mk hrd
                  clear hrd
                  have hnle := nb_le l f 0 1
                  have HFF := Aside0.mk hFF
                  clear hFF
                  have Z3 := Aside0.mk z3
                  clear z3
                  have HRC := Aside0.mk hrc
                  clear hrc
                  go_wp2_with fail
                  have HX := Aside0.mk (heap_alloc_new wr (.cells #[.bool true, .int .i64 n] 44))
                  have hB : Below wr.heap.size wr (wr.alloc (.cells #[.bool true, .int .i64 n] 44)) := (Below.refl _ _).alloc (Nat.le_refl _) _
                  replace HRd := Aside0.mk (HRd.out.under hB)
                  replace HB := Aside0.mk (step_below HB.out hB)
                  clear hB
                  refine (reach_c (f : Int) 1 (l.length : Int) _ _ HRC.out).mono ?_
                  rintro e w' ⟨rfl, hD⟩
                  have hB := hD.below
                  clear hD
                  replace HRd := Aside0.mk (HRd.out.under hB)
                  replace HB := Aside0.mk (step_below HB.out hB)
                  replace HX := Aside0.mk ((hB.block _ (blk_lt HX.out)).trans HX.out)
                  clear hB
                  try clear hx0
                  have hx0 : World.cell? _ ⟨wr.heap.size, 0, none⟩ = some (.bool true) := blk_cell HX.out 0
                  go_wp2_with fail
                  obtain ⟨m0, m1, m2⟩ := num_nb HL.out f 0 1 1 rfl (by omega)
                  have hN := number_c Aw (nb l f 0 1).length cw (nb l f 0 1) _ (HRD.out _ (Kd.C_below HR0.out HB.out)) hlw (nb_bytes HL.out _ _ _) (by omega)
                  rw [m0] at hN
                  have hU := u8_w w.heap.size g s c f A l 0 HL.out (by omega)
                  clear m0
                  simp only [Int.reducePow, Nat.reducePow] at m2
                  generalize num (nb l f 0 1) = x at hN hU m1 m2
                  have HU := Aside0.mk hU
                  clear hU
                  refine hN.mono ?_
                  rintro e w' ⟨rfl, hD⟩
                  clear hN
                  have hB := hD.below
                  clear hD
                  replace HRd := Aside0.mk (HRd.out.under hB)
                  replace HB := Aside0.mk (step_below HB.out hB)
                  replace HX := Aside0.mk ((hB.block _ (blk_lt HX.out)).trans HX.out)
                  clear hB
                  try clear hx0
                  have hx0 : World.cell? _ ⟨wr.heap.size, 0, none⟩ = some (.bool true) := blk_cell HX.out 0
                  go_wp2_with fail
                  refine (HU.out _ (below_size HB.out) HRd.out).mono ?_
                  rintro e w' ⟨rfl, hR2, hK⟩
                  replace HB := Aside0.mk (HB.out.trans hK.b)
                  replace HX := Aside0.mk ((hK.k _ (blk_lt HX.out) (by omega)).trans HX.out)
                  clear hx0
                  have hx0 : World.cell? _ ⟨wr.heap.size, 0, none⟩ = some (.bool true) := blk_cell HX.out 0
                  clear HRd
                  have HRd := Aside0.mk hR2
                  clear hR2 hK
                  rw [Z3.out] at HRd
                  go_wp2_with fail
                  refine (left_r HRd.out ((f : Int) + 1) HFF.out (by omega)).mono ?_
                  rintro e w' ⟨rfl, hD⟩
                  have hB := hD.below
                  clear hD
                  replace HRd := Aside0.mk (HRd.out.under hB)
                  replace HB := Aside0.mk (step_below HB.out hB)
                  replace HX := Aside0.mk ((hB.block _ (blk_lt HX.out)).trans HX.out)
                  clear hB
                  try clear hx0
                  have hx0 : World.cell? _ ⟨wr.heap.size, 0, none⟩ = some (.bool true) := blk_cell HX.out 0
                  go_wp2_with fail
                  refine (PE.L.err_w g 0 _ HRd.out.c2).mono ?_
                  rintro e w' ⟨rfl, hD⟩
                  have hB := hD.below
                  clear hD
                  replace HRd := Aside0.mk (HRd.out.under hB)
                  replace HB := Aside0.mk (step_below HB.out hB)
                  replace HX := Aside0.mk ((hB.block _ (blk_lt HX.out)).trans HX.out)
                  clear hB
                  try clear hx0
                  have hx0 : World.cell? _ ⟨wr.heap.size, 0, none⟩ = some (.bool true) := blk_cell HX.out 0
                  go_wp2
                  go_roundw
                  case rel => exact ⟨k + 1, nf l f 0 1, 0, by omega, by simp, congrArg (Value.int .i64) HFF.out.symm, rfl, HRd, HB⟩
                  case measure => simp [intOf]; omega
              · skip
                have e1 : (er == 0) = false := by simpa using her
                have e2 : (er != 0) = true := by simpa using her
                have z1 : nb l f er 1 = [] := by unfold nb; rw [if_neg (by omega)]
                have z2 : nf l f er 1 = f := by unfold nf; rw [if_neg (by omega)]
                have z3 : ne l f er 1 = er := by unfold ne; rw [if_neg her]
                have Z1 := Aside0.mk z1
                clear z1
                have Z2 := Aside0.mk z2
                clear z2
                have Z3 := Aside0.mk z3
                clear z3
                go_wp2_with fail
                have HX := Aside0.mk (heap_alloc_new wr (.cells #[.bool true, .int .i64 n] 44))
                have hB : Below wr.heap.size wr (wr.alloc (.cells #[.bool true, .int .i64 n] 44)) := (Below.refl _ _).alloc (Nat.le_refl _) _
                replace HRd := Aside0.mk (HRd.out.under hB)
                replace HB := Aside0.mk (step_below HB.out hB)
                clear hB
                obtain ⟨m0, m1, m2⟩ := num_nb HL.out f er 1 1 rfl (by omega)
                rw [Z1.out] at m0 m1 m2
                have hN := fun W => number_c none 0 0 [] W (Kd.C_nil _ _) (Nat.le_refl _) (fun j => by simp) (by omega)
                simp only [m0] at hN
                have hU := u8_w w.heap.size g s c f A l er HL.out (by omega)
                rw [Z1.out] at hU
                clear m0
                simp only [Int.reducePow, Nat.reducePow] at m2
                generalize num [] = x at hN hU m1 m2
                have HU := Aside0.mk hU
                clear hU
                refine (hN _).mono ?_
                rintro e w' ⟨rfl, hD⟩
                clear hN
                have hB := hD.below
                clear hD
                replace HRd := Aside0.mk (HRd.out.under hB)
                replace HB := Aside0.mk (step_below HB.out hB)
                replace HX := Aside0.mk ((hB.block _ (blk_lt HX.out)).trans HX.out)
                clear hB
                try clear hx0
                have hx0 : World.cell? _ ⟨wr.heap.size, 0, none⟩ = some (.bool true) := blk_cell HX.out 0
                go_wp2_with fail
                refine (HU.out _ (below_size HB.out) HRd.out).mono ?_
                rintro e w' ⟨rfl, hR2, hK⟩
                replace HB := Aside0.mk (HB.out.trans hK.b)
                replace HX := Aside0.mk ((hK.k _ (blk_lt HX.out) (by omega)).trans HX.out)
                clear hx0
                have hx0 : World.cell? _ ⟨wr.heap.size, 0, none⟩ = some (.bool true) := blk_cell HX.out 0
                clear HRd
                have HRd := Aside0.mk hR2
                clear hR2 hK
                rw [Z2.out, Z3.out] at HRd
                go_wp2_with fail
                refine (left_r HRd.out (f : Int) rfl (by omega)).mono ?_
                rintro e w' ⟨rfl, hD⟩
                have hB := hD.below
                clear hD
                replace HRd := Aside0.mk (HRd.out.under hB)
                replace HB := Aside0.mk (step_below HB.out hB)
                replace HX := Aside0.mk ((hB.block _ (blk_lt HX.out)).trans HX.out)
                clear hB
                try clear hx0
                have hx0 : World.cell? _ ⟨wr.heap.size, 0, none⟩ = some (.bool true) := blk_cell HX.out 0
                go_wp2_with fail
                refine (PE.L.err_w g er _ HRd.out.c2).mono ?_
                rintro e w' ⟨rfl, hD⟩
                have hB := hD.below
                clear hD
                replace HRd := Aside0.mk (HRd.out.under hB)
                replace HB := Aside0.mk (step_below HB.out hB)
                replace HX := Aside0.mk ((hB.block _ (blk_lt HX.out)).trans HX.out)
                clear hB
                try clear hx0
                have hx0 : World.cell? _ ⟨wr.heap.size, 0, none⟩ = some (.bool true) := blk_cell HX.out 0
                go_wp2
                go_roundw
                case rel => exact ⟨k + 1, f, er, by omega, by simp, rfl, rfl, HRd, HB⟩
                case measure => simp [intOf]; omega
            · skip
              by_cases her : er = 0
              · subst her
                by_cases hsh : (l.length : Int) - f < 2
                · skip
                  have hrc : wicketgateref01_Reach.f (f : Int) 2 (l.length : Int) = some 7 := by unfold wicketgateref01_Reach.f; rw [s_w64 (by omega) (by omega), if_neg (by omega), if_pos (by omega)]
                  have z1 : nb l f 0 2 = [] := by unfold nb; rw [if_neg (by omega)]
                  have z2 : nf l f 0 2 = f := by unfold nf; rw [if_neg (by omega)]
                  have z3 : ne l f 0 2 = 7 := by unfold ne; rw [if_pos rfl, if_neg (by omega), if_pos (by omega)]
                  have Z1 := Aside0.mk z1
                  clear z1
                  have Z2 := Aside0.mk z2
                  clear z2
                  have Z3 := Aside0.mk z3
                  clear z3
                  have HRC := Aside0.mk hrc
                  clear hrc
                  go_wp2_with fail
                  have HX := Aside0.mk (heap_alloc_new wr (.cells #[.bool true, .int .i64 n] 44))
                  have hB : Below wr.heap.size wr (wr.alloc (.cells #[.bool true, .int .i64 n] 44)) := (Below.refl _ _).alloc (Nat.le_refl _) _
                  replace HRd := Aside0.mk (HRd.out.under hB)
                  replace HB := Aside0.mk (step_below HB.out hB)
                  clear hB
                  refine (reach_c (f : Int) 2 (l.length : Int) _ _ HRC.out).mono ?_
                  rintro e w' ⟨rfl, hD⟩
                  have hB := hD.below
                  clear hD
                  replace HRd := Aside0.mk (HRd.out.under hB)
                  replace HB := Aside0.mk (step_below HB.out hB)
                  replace HX := Aside0.mk ((hB.block _ (blk_lt HX.out)).trans HX.out)
                  clear hB
                  try clear hx0
                  have hx0 : World.cell? _ ⟨wr.heap.size, 0, none⟩ = some (.bool true) := blk_cell HX.out 0
                  go_wp2_with fail
                  obtain ⟨m0, m1, m2⟩ := num_nb HL.out f 0 2 2 rfl (by omega)
                  rw [Z1.out] at m0 m1 m2
                  have hN := fun W => number_c none 0 0 [] W (Kd.C_nil _ _) (Nat.le_refl _) (fun j => by simp) (by omega)
                  simp only [m0] at hN
                  have hU := u16_w w.heap.size g s c f A l 0 HL.out (by omega)
                  rw [Z1.out] at hU
                  clear m0
                  simp only [Int.reducePow, Nat.reducePow] at m2
                  generalize num [] = x at hN hU m1 m2
                  have HU := Aside0.mk hU
                  clear hU
                  refine (hN _).mono ?_
                  rintro e w' ⟨rfl, hD⟩
                  clear hN
                  have hB := hD.below
                  clear hD
                  replace HRd := Aside0.mk (HRd.out.under hB)
                  replace HB := Aside0.mk (step_below HB.out hB)
                  replace HX := Aside0.mk ((hB.block _ (blk_lt HX.out)).trans HX.out)
                  clear hB
                  try clear hx0
                  have hx0 : World.cell? _ ⟨wr.heap.size, 0, none⟩ = some (.bool true) := blk_cell HX.out 0
                  go_wp2_with fail
                  refine (HU.out _ (below_size HB.out) HRd.out).mono ?_
                  rintro e w' ⟨rfl, hR2, hK⟩
                  replace HB := Aside0.mk (HB.out.trans hK.b)
                  replace HX := Aside0.mk ((hK.k _ (blk_lt HX.out) (by omega)).trans HX.out)
                  clear hx0
                  have hx0 : World.cell? _ ⟨wr.heap.size, 0, none⟩ = some (.bool true) := blk_cell HX.out 0
                  clear HRd
                  have HRd := Aside0.mk hR2
                  clear hR2 hK
                  rw [Z2.out, Z3.out] at HRd
                  go_wp2_with fail
                  refine (left_r HRd.out (f : Int) rfl (by omega)).mono ?_
                  rintro e w' ⟨rfl, hD⟩
                  have hB := hD.below
                  clear hD
                  replace HRd := Aside0.mk (HRd.out.under hB)
                  replace HB := Aside0.mk (step_below HB.out hB)
                  replace HX := Aside0.mk ((hB.block _ (blk_lt HX.out)).trans HX.out)
                  clear hB
                  try clear hx0
                  have hx0 : World.cell? _ ⟨wr.heap.size, 0, none⟩ = some (.bool true) := blk_cell HX.out 0
                  go_wp2_with fail
                  refine (PE.L.err_w g 7 _ HRd.out.c2).mono ?_
                  rintro e w' ⟨rfl, hD⟩
                  have hB := hD.below
                  clear hD
                  replace HRd := Aside0.mk (HRd.out.under hB)
                  replace HB := Aside0.mk (step_below HB.out hB)
                  replace HX := Aside0.mk ((hB.block _ (blk_lt HX.out)).trans HX.out)
                  clear hB
                  try clear hx0
                  have hx0 : World.cell? _ ⟨wr.heap.size, 0, none⟩ = some (.bool true) := blk_cell HX.out 0
                  go_wp2
                  go_roundw
                  case rel => exact ⟨k + 1, f, 7, by omega, by simp, rfl, rfl, HRd, HB⟩
                  case measure => simp [intOf]; omega
                · skip
                  have hrc : wicketgateref01_Reach.f (f : Int) 2 (l.length : Int) = some 0 := by unfold wicketgateref01_Reach.f; rw [s_w64 (by omega) (by omega), if_neg (by omega), if_neg (by omega)]
                  have hFF : ((nf l f 0 2 : Nat) : Int) = (f : Int) + 2 := by unfold nf; rw [if_pos ⟨rfl, by omega, by omega⟩]; omega
                  have z3 : ne l f 0 2 = 0 := by unfold ne; rw [if_pos rfl, if_neg (by omega), if_neg (by omega)]
                  obtain ⟨Aw, cw, hrun, hrd, hlw⟩ := mid_c A0 c0 l f 2 (by omega) (by omega) hf hc0
                  have HRD := Aside0.mk hrd
                  clear hrd
                  have hnle := nb_le l f 0 2
                  have HFF := Aside0.mk hFF
                  clear hFF
                  have Z3 := Aside0.mk z3
                  clear z3
                  have HRC := Aside0.mk hrc
                  clear hrc
                  go_wp2_with fail
                  have HX := Aside0.mk (heap_alloc_new wr (.cells #[.bool true, .int .i64 n] 44))
                  have hB : Below wr.heap.size wr (wr.alloc (.cells #[.bool true, .int .i64 n] 44)) := (Below.refl _ _).alloc (Nat.le_refl _) _
                  replace HRd := Aside0.mk (HRd.out.under hB)
                  replace HB := Aside0.mk (step_below HB.out hB)
                  clear hB
                  refine (reach_c (f : Int) 2 (l.length : Int) _ _ HRC.out).mono ?_
                  rintro e w' ⟨rfl, hD⟩
                  have hB := hD.below
                  clear hD
                  replace HRd := Aside0.mk (HRd.out.under hB)
                  replace HB := Aside0.mk (step_below HB.out hB)
                  replace HX := Aside0.mk ((hB.block _ (blk_lt HX.out)).trans HX.out)
                  clear hB
                  try clear hx0
                  have hx0 : World.cell? _ ⟨wr.heap.size, 0, none⟩ = some (.bool true) := blk_cell HX.out 0
                  go_wp2_with fail
                  obtain ⟨m0, m1, m2⟩ := num_nb HL.out f 0 2 2 rfl (by omega)
                  have hN := number_c Aw (nb l f 0 2).length cw (nb l f 0 2) _ (HRD.out _ (Kd.C_below HR0.out HB.out)) hlw (nb_bytes HL.out _ _ _) (by omega)
                  rw [m0] at hN
                  have hU := u16_w w.heap.size g s c f A l 0 HL.out (by omega)
                  clear m0
                  simp only [Int.reducePow, Nat.reducePow] at m2
                  generalize num (nb l f 0 2) = x at hN hU m1 m2
                  have HU := Aside0.mk hU
                  clear hU
                  refine hN.mono ?_
                  rintro e w' ⟨rfl, hD⟩
                  clear hN
                  have hB := hD.below
                  clear hD
                  replace HRd := Aside0.mk (HRd.out.under hB)
                  replace HB := Aside0.mk (step_below HB.out hB)
                  replace HX := Aside0.mk ((hB.block _ (blk_lt HX.out)).trans HX.out)
                  clear hB
                  try clear hx0
                  have hx0 : World.cell? _ ⟨wr.heap.size, 0, none⟩ = some (.bool true) := blk_cell HX.out 0
                  go_wp2_with fail
                  refine (HU.out _ (below_size HB.out) HRd.out).mono ?_
                  rintro e w' ⟨rfl, hR2, hK⟩
                  replace HB := Aside0.mk (HB.out.trans hK.b)
                  replace HX := Aside0.mk ((hK.k _ (blk_lt HX.out) (by omega)).trans HX.out)
                  clear hx0
                  have hx0 : World.cell? _ ⟨wr.heap.size, 0, none⟩ = some (.bool true) := blk_cell HX.out 0
                  clear HRd
                  have HRd := Aside0.mk hR2
                  clear hR2 hK
                  rw [Z3.out] at HRd
                  go_wp2_with fail
                  refine (left_r HRd.out ((f : Int) + 2) HFF.out (by omega)).mono ?_
                  rintro e w' ⟨rfl, hD⟩
                  have hB := hD.below
                  clear hD
                  replace HRd := Aside0.mk (HRd.out.under hB)
                  replace HB := Aside0.mk (step_below HB.out hB)
                  replace HX := Aside0.mk ((hB.block _ (blk_lt HX.out)).trans HX.out)
                  clear hB
                  try clear hx0
                  have hx0 : World.cell? _ ⟨wr.heap.size, 0, none⟩ = some (.bool true) := blk_cell HX.out 0
                  go_wp2_with fail
                  refine (PE.L.err_w g 0 _ HRd.out.c2).mono ?_
                  rintro e w' ⟨rfl, hD⟩
                  have hB := hD.below
                  clear hD
                  replace HRd := Aside0.mk (HRd.out.under hB)
                  replace HB := Aside0.mk (step_below HB.out hB)
                  replace HX := Aside0.mk ((hB.block _ (blk_lt HX.out)).trans HX.out)
                  clear hB
                  try clear hx0
                  have hx0 : World.cell? _ ⟨wr.heap.size, 0, none⟩ = some (.bool true) := blk_cell HX.out 0
                  go_wp2
                  go_roundw
                  case rel => exact ⟨k + 1, nf l f 0 2, 0, by omega, by simp, congrArg (Value.int .i64) HFF.out.symm, rfl, HRd, HB⟩
                  case measure => simp [intOf]; omega
              · skip
                have e1 : (er == 0) = false := by simpa using her
                have e2 : (er != 0) = true := by simpa using her
                have z1 : nb l f er 2 = [] := by unfold nb; rw [if_neg (by omega)]
                have z2 : nf l f er 2 = f := by unfold nf; rw [if_neg (by omega)]
                have z3 : ne l f er 2 = er := by unfold ne; rw [if_neg her]
                have Z1 := Aside0.mk z1
                clear z1
                have Z2 := Aside0.mk z2
                clear z2
                have Z3 := Aside0.mk z3
                clear z3
                go_wp2_with fail
                have HX := Aside0.mk (heap_alloc_new wr (.cells #[.bool true, .int .i64 n] 44))
                have hB : Below wr.heap.size wr (wr.alloc (.cells #[.bool true, .int .i64 n] 44)) := (Below.refl _ _).alloc (Nat.le_refl _) _
                replace HRd := Aside0.mk (HRd.out.under hB)
                replace HB := Aside0.mk (step_below HB.out hB)
                clear hB
                obtain ⟨m0, m1, m2⟩ := num_nb HL.out f er 2 2 rfl (by omega)
                rw [Z1.out] at m0 m1 m2
                have hN := fun W => number_c none 0 0 [] W (Kd.C_nil _ _) (Nat.le_refl _) (fun j => by simp) (by omega)
                simp only [m0] at hN
                have hU := u16_w w.heap.size g s c f A l er HL.out (by omega)
                rw [Z1.out] at hU
                clear m0
                simp only [Int.reducePow, Nat.reducePow] at m2
                generalize num [] = x at hN hU m1 m2
                have HU := Aside0.mk hU
                clear hU
                refine (hN _).mono ?_
                rintro e w' ⟨rfl, hD⟩
                clear hN
                have hB := hD.below
                clear hD
                replace HRd := Aside0.mk (HRd.out.under hB)
                replace HB := Aside0.mk (step_below HB.out hB)
                replace HX := Aside0.mk ((hB.block _ (blk_lt HX.out)).trans HX.out)
                clear hB
                try clear hx0
                have hx0 : World.cell? _ ⟨wr.heap.size, 0, none⟩ = some (.bool true) := blk_cell HX.out 0
                go_wp2_with fail
                refine (HU.out _ (below_size HB.out) HRd.out).mono ?_
                rintro e w' ⟨rfl, hR2, hK⟩
                replace HB := Aside0.mk (HB.out.trans hK.b)
                replace HX := Aside0.mk ((hK.k _ (blk_lt HX.out) (by omega)).trans HX.out)
                clear hx0
                have hx0 : World.cell? _ ⟨wr.heap.size, 0, none⟩ = some (.bool true) := blk_cell HX.out 0
                clear HRd
                have HRd := Aside0.mk hR2
                clear hR2 hK
                rw [Z2.out, Z3.out] at HRd
                go_wp2_with fail
                refine (left_r HRd.out (f : Int) rfl (by omega)).mono ?_
                rintro e w' ⟨rfl, hD⟩
                have hB := hD.below
                clear hD
                replace HRd := Aside0.mk (HRd.out.under hB)
                replace HB := Aside0.mk (step_below HB.out hB)
                replace HX := Aside0.mk ((hB.block _ (blk_lt HX.out)).trans HX.out)
                clear hB
                try clear hx0
                have hx0 : World.cell? _ ⟨wr.heap.size, 0, none⟩ = some (.bool true) := blk_cell HX.out 0
                go_wp2_with fail
                refine (PE.L.err_w g er _ HRd.out.c2).mono ?_
                rintro e w' ⟨rfl, hD⟩
                have hB := hD.below
                clear hD
                replace HRd := Aside0.mk (HRd.out.under hB)
                replace HB := Aside0.mk (step_below HB.out hB)
                replace HX := Aside0.mk ((hB.block _ (blk_lt HX.out)).trans HX.out)
                clear hB
                try clear hx0
                have hx0 : World.cell? _ ⟨wr.heap.size, 0, none⟩ = some (.bool true) := blk_cell HX.out 0
                go_wp2
                go_roundw
                case rel => exact ⟨k + 1, f, er, by omega, by simp, rfl, rfl, HRd, HB⟩
                case measure => simp [intOf]; omega
            · skip
              by_cases her : er = 0
              · subst her
                by_cases hsh : (l.length : Int) - f < 4
                · skip
                  have hrc : wicketgateref01_Reach.f (f : Int) 4 (l.length : Int) = some 7 := by unfold wicketgateref01_Reach.f; rw [s_w64 (by omega) (by omega), if_neg (by omega), if_pos (by omega)]
                  have z1 : nb l f 0 4 = [] := by unfold nb; rw [if_neg (by omega)]
                  have z2 : nf l f 0 4 = f := by unfold nf; rw [if_neg (by omega)]
                  have z3 : ne l f 0 4 = 7 := by unfold ne; rw [if_pos rfl, if_neg (by omega), if_pos (by omega)]
                  have Z1 := Aside0.mk z1
                  clear z1
                  have Z2 := Aside0.mk z2
                  clear z2
                  have Z3 := Aside0.mk z3
                  clear z3
                  have HRC := Aside0.mk hrc
                  clear hrc
                  go_wp2_with fail
                  have HX := Aside0.mk (heap_alloc_new wr (.cells #[.bool true, .int .i64 n] 44))
                  have hB : Below wr.heap.size wr (wr.alloc (.cells #[.bool true, .int .i64 n] 44)) := (Below.refl _ _).alloc (Nat.le_refl _) _
                  replace HRd := Aside0.mk (HRd.out.under hB)
                  replace HB := Aside0.mk (step_below HB.out hB)
                  clear hB
                  refine (reach_c (f : Int) 4 (l.length : Int) _ _ HRC.out).mono ?_
                  rintro e w' ⟨rfl, hD⟩
                  have hB := hD.below
                  clear hD
                  replace HRd := Aside0.mk (HRd.out.under hB)
                  replace HB := Aside0.mk (step_below HB.out hB)
                  replace HX := Aside0.mk ((hB.block _ (blk_lt HX.out)).trans HX.out)
                  clear hB
                  try clear hx0
                  have hx0 : World.cell? _ ⟨wr.heap.size, 0, none⟩ = some (.bool true) := blk_cell HX.out 0
                  go_wp2_with fail
                  obtain ⟨m0, m1, m2⟩ := num_nb HL.out f 0 4 4 rfl (by omega)
                  rw [Z1.out] at m0 m1 m2
                  have hN := fun W => number_c none 0 0 [] W (Kd.C_nil _ _) (Nat.le_refl _) (fun j => by simp) (by omega)
                  simp only [m0] at hN
                  have hU := u32_w w.heap.size g s c f A l 0 HL.out (by omega)
                  rw [Z1.out] at hU
                  clear m0
                  simp only [Int.reducePow, Nat.reducePow] at m2
                  generalize num [] = x at hN hU m1 m2
                  have HU := Aside0.mk hU
                  clear hU
                  refine (hN _).mono ?_
                  rintro e w' ⟨rfl, hD⟩
                  clear hN
                  have hB := hD.below
                  clear hD
                  replace HRd := Aside0.mk (HRd.out.under hB)
                  replace HB := Aside0.mk (step_below HB.out hB)
                  replace HX := Aside0.mk ((hB.block _ (blk_lt HX.out)).trans HX.out)
                  clear hB
                  try clear hx0
                  have hx0 : World.cell? _ ⟨wr.heap.size, 0, none⟩ = some (.bool true) := blk_cell HX.out 0
                  go_wp2_with fail
                  refine (HU.out _ (below_size HB.out) HRd.out).mono ?_
                  rintro e w' ⟨rfl, hR2, hK⟩
                  replace HB := Aside0.mk (HB.out.trans hK.b)
                  replace HX := Aside0.mk ((hK.k _ (blk_lt HX.out) (by omega)).trans HX.out)
                  clear hx0
                  have hx0 : World.cell? _ ⟨wr.heap.size, 0, none⟩ = some (.bool true) := blk_cell HX.out 0
                  clear HRd
                  have HRd := Aside0.mk hR2
                  clear hR2 hK
                  rw [Z2.out, Z3.out] at HRd
                  go_wp2_with fail
                  refine (left_r HRd.out (f : Int) rfl (by omega)).mono ?_
                  rintro e w' ⟨rfl, hD⟩
                  have hB := hD.below
                  clear hD
                  replace HRd := Aside0.mk (HRd.out.under hB)
                  replace HB := Aside0.mk (step_below HB.out hB)
                  replace HX := Aside0.mk ((hB.block _ (blk_lt HX.out)).trans HX.out)
                  clear hB
                  try clear hx0
                  have hx0 : World.cell? _ ⟨wr.heap.size, 0, none⟩ = some (.bool true) := blk_cell HX.out 0
                  go_wp2_with fail
                  refine (PE.L.err_w g 7 _ HRd.out.c2).mono ?_
                  rintro e w' ⟨rfl, hD⟩
                  have hB := hD.below
                  clear hD
                  replace HRd := Aside0.mk (HRd.out.under hB)
                  replace HB := Aside0.mk (step_below HB.out hB)
                  replace HX := Aside0.mk ((hB.block _ (blk_lt HX.out)).trans HX.out)
                  clear hB
                  try clear hx0
                  have hx0 : World.cell? _ ⟨wr.heap.size, 0, none⟩ = some (.bool true) := blk_cell HX.out 0
                  go_wp2
                  go_roundw
                  case rel => exact ⟨k + 1, f, 7, by omega, by simp, rfl, rfl, HRd, HB⟩
                  case measure => simp [intOf]; omega
                · skip
                  have hrc : wicketgateref01_Reach.f (f : Int) 4 (l.length : Int) = some 0 := by unfold wicketgateref01_Reach.f; rw [s_w64 (by omega) (by omega), if_neg (by omega), if_neg (by omega)]
                  have hFF : ((nf l f 0 4 : Nat) : Int) = (f : Int) + 4 := by unfold nf; rw [if_pos ⟨rfl, by omega, by omega⟩]; omega
                  have z3 : ne l f 0 4 = 0 := by unfold ne; rw [if_pos rfl, if_neg (by omega), if_neg (by omega)]
                  obtain ⟨Aw, cw, hrun, hrd, hlw⟩ := mid_c A0 c0 l f 4 (by omega) (by omega) hf hc0
                  have HRD := Aside0.mk hrd
                  clear hrd
                  have hnle := nb_le l f 0 4
                  have HFF := Aside0.mk hFF
                  clear hFF
                  have Z3 := Aside0.mk z3
                  clear z3
                  have HRC := Aside0.mk hrc
                  clear hrc
                  go_wp2_with fail
                  have HX := Aside0.mk (heap_alloc_new wr (.cells #[.bool true, .int .i64 n] 44))
                  have hB : Below wr.heap.size wr (wr.alloc (.cells #[.bool true, .int .i64 n] 44)) := (Below.refl _ _).alloc (Nat.le_refl _) _
                  replace HRd := Aside0.mk (HRd.out.under hB)
                  replace HB := Aside0.mk (step_below HB.out hB)
                  clear hB
                  refine (reach_c (f : Int) 4 (l.length : Int) _ _ HRC.out).mono ?_
                  rintro e w' ⟨rfl, hD⟩
                  have hB := hD.below
                  clear hD
                  replace HRd := Aside0.mk (HRd.out.under hB)
                  replace HB := Aside0.mk (step_below HB.out hB)
                  replace HX := Aside0.mk ((hB.block _ (blk_lt HX.out)).trans HX.out)
                  clear hB
                  try clear hx0
                  have hx0 : World.cell? _ ⟨wr.heap.size, 0, none⟩ = some (.bool true) := blk_cell HX.out 0
                  go_wp2_with fail
                  obtain ⟨m0, m1, m2⟩ := num_nb HL.out f 0 4 4 rfl (by omega)
                  have hN := number_c Aw (nb l f 0 4).length cw (nb l f 0 4) _ (HRD.out _ (Kd.C_below HR0.out HB.out)) hlw (nb_bytes HL.out _ _ _) (by omega)
                  rw [m0] at hN
                  have hU := u32_w w.heap.size g s c f A l 0 HL.out (by omega)
                  clear m0
                  simp only [Int.reducePow, Nat.reducePow] at m2
                  generalize num (nb l f 0 4) = x at hN hU m1 m2
                  have HU := Aside0.mk hU
                  clear hU
                  refine hN.mono ?_
                  rintro e w' ⟨rfl, hD⟩
                  clear hN
                  have hB := hD.below
                  clear hD
                  replace HRd := Aside0.mk (HRd.out.under hB)
                  replace HB := Aside0.mk (step_below HB.out hB)
                  replace HX := Aside0.mk ((hB.block _ (blk_lt HX.out)).trans HX.out)
                  clear hB
                  try clear hx0
                  have hx0 : World.cell? _ ⟨wr.heap.size, 0, none⟩ = some (.bool true) := blk_cell HX.out 0
                  go_wp2_with fail
                  refine (HU.out _ (below_size HB.out) HRd.out).mono ?_
                  rintro e w' ⟨rfl, hR2, hK⟩
                  replace HB := Aside0.mk (HB.out.trans hK.b)
                  replace HX := Aside0.mk ((hK.k _ (blk_lt HX.out) (by omega)).trans HX.out)
                  clear hx0
                  have hx0 : World.cell? _ ⟨wr.heap.size, 0, none⟩ = some (.bool true) := blk_cell HX.out 0
                  clear HRd
                  have HRd := Aside0.mk hR2
                  clear hR2 hK
                  rw [Z3.out] at HRd
                  go_wp2_with fail
                  refine (left_r HRd.out ((f : Int) + 4) HFF.out (by omega)).mono ?_
                  rintro e w' ⟨rfl, hD⟩
                  have hB := hD.below
                  clear hD
                  replace HRd := Aside0.mk (HRd.out.under hB)
                  replace HB := Aside0.mk (step_below HB.out hB)
                  replace HX := Aside0.mk ((hB.block _ (blk_lt HX.out)).trans HX.out)
                  clear hB
                  try clear hx0
                  have hx0 : World.cell? _ ⟨wr.heap.size, 0, none⟩ = some (.bool true) := blk_cell HX.out 0
                  go_wp2_with fail
                  refine (PE.L.err_w g 0 _ HRd.out.c2).mono ?_
                  rintro e w' ⟨rfl, hD⟩
                  have hB := hD.below
                  clear hD
                  replace HRd := Aside0.mk (HRd.out.under hB)
                  replace HB := Aside0.mk (step_below HB.out hB)
                  replace HX := Aside0.mk ((hB.block _ (blk_lt HX.out)).trans HX.out)
                  clear hB
                  try clear hx0
                  have hx0 : World.cell? _ ⟨wr.heap.size, 0, none⟩ = some (.bool true) := blk_cell HX.out 0
                  go_wp2
                  go_roundw
                  case rel => exact ⟨k + 1, nf l f 0 4, 0, by omega, by simp, congrArg (Value.int .i64) HFF.out.symm, rfl, HRd, HB⟩
                  case measure => simp [intOf]; omega
              · skip
                have e1 : (er == 0) = false := by simpa using her
                have e2 : (er != 0) = true := by simpa using her
                have z1 : nb l f er 4 = [] := by unfold nb; rw [if_neg (by omega)]
                have z2 : nf l f er 4 = f := by unfold nf; rw [if_neg (by omega)]
                have z3 : ne l f er 4 = er := by unfold ne; rw [if_neg her]
                have Z1 := Aside0.mk z1
                clear z1
                have Z2 := Aside0.mk z2
                clear z2
                have Z3 := Aside0.mk z3
                clear z3
                go_wp2_with fail
                have HX := Aside0.mk (heap_alloc_new wr (.cells #[.bool true, .int .i64 n] 44))
                have hB : Below wr.heap.size wr (wr.alloc (.cells #[.bool true, .int .i64 n] 44)) := (Below.refl _ _).alloc (Nat.le_refl _) _
                replace HRd := Aside0.mk (HRd.out.under hB)
                replace HB := Aside0.mk (step_below HB.out hB)
                clear hB
                obtain ⟨m0, m1, m2⟩ := num_nb HL.out f er 4 4 rfl (by omega)
                rw [Z1.out] at m0 m1 m2
                have hN := fun W => number_c none 0 0 [] W (Kd.C_nil _ _) (Nat.le_refl _) (fun j => by simp) (by omega)
                simp only [m0] at hN
                have hU := u32_w w.heap.size g s c f A l er HL.out (by omega)
                rw [Z1.out] at hU
                clear m0
                simp only [Int.reducePow, Nat.reducePow] at m2
                generalize num [] = x at hN hU m1 m2
                have HU := Aside0.mk hU
                clear hU
                refine (hN _).mono ?_
                rintro e w' ⟨rfl, hD⟩
                clear hN
                have hB := hD.below
                clear hD
                replace HRd := Aside0.mk (HRd.out.under hB)
                replace HB := Aside0.mk (step_below HB.out hB)
                replace HX := Aside0.mk ((hB.block _ (blk_lt HX.out)).trans HX.out)
                clear hB
                try clear hx0
                have hx0 : World.cell? _ ⟨wr.heap.size, 0, none⟩ = some (.bool true) := blk_cell HX.out 0
                go_wp2_with fail
                refine (HU.out _ (below_size HB.out) HRd.out).mono ?_
                rintro e w' ⟨rfl, hR2, hK⟩
                replace HB := Aside0.mk (HB.out.trans hK.b)
                replace HX := Aside0.mk ((hK.k _ (blk_lt HX.out) (by omega)).trans HX.out)
                clear hx0
                have hx0 : World.cell? _ ⟨wr.heap.size, 0, none⟩ = some (.bool true) := blk_cell HX.out 0
                clear HRd
                have HRd := Aside0.mk hR2
                clear hR2 hK
                rw [Z2.out, Z3.out] at HRd
                go_wp2_with fail
                refine (left_r HRd.out (f : Int) rfl (by omega)).mono ?_
                rintro e w' ⟨rfl, hD⟩
                have hB := hD.below
                clear hD
                replace HRd := Aside0.mk (HRd.out.under hB)
                replace HB := Aside0.mk (step_below HB.out hB)
                replace HX := Aside0.mk ((hB.block _ (blk_lt HX.out)).trans HX.out)
                clear hB
                try clear hx0
                have hx0 : World.cell? _ ⟨wr.heap.size, 0, none⟩ = some (.bool true) := blk_cell HX.out 0
                go_wp2_with fail
                refine (PE.L.err_w g er _ HRd.out.c2).mono ?_
                rintro e w' ⟨rfl, hD⟩
                have hB := hD.below
                clear hD
                replace HRd := Aside0.mk (HRd.out.under hB)
                replace HB := Aside0.mk (step_below HB.out hB)
                replace HX := Aside0.mk ((hB.block _ (blk_lt HX.out)).trans HX.out)
                clear hB
                try clear hx0
                have hx0 : World.cell? _ ⟨wr.heap.size, 0, none⟩ = some (.bool true) := blk_cell HX.out 0
                go_wp2
                go_roundw
                case rel => exact ⟨k + 1, f, er, by omega, by simp, rfl, rfl, HRd, HB⟩
                case measure => simp [intOf]; omega
            · skip
              by_cases her : er = 0
              · subst her
                by_cases hsh : (l.length : Int) - f < 8
                · skip
                  have hrc : wicketgateref01_Reach.f (f : Int) 8 (l.length : Int) = some 7 := by unfold wicketgateref01_Reach.f; rw [s_w64 (by omega) (by omega), if_neg (by omega), if_pos (by omega)]
                  have z1 : nb l f 0 8 = [] := by unfold nb; rw [if_neg (by omega)]
                  have z2 : nf l f 0 8 = f := by unfold nf; rw [if_neg (by omega)]
                  have z3 : ne l f 0 8 = 7 := by unfold ne; rw [if_pos rfl, if_neg (by omega), if_pos (by omega)]
                  have Z1 := Aside0.mk z1
                  clear z1
                  have Z2 := Aside0.mk z2
                  clear z2
                  have Z3 := Aside0.mk z3
                  clear z3
                  have HRC := Aside0.mk hrc
                  clear hrc
                  go_wp2_with fail
                  have HX := Aside0.mk (heap_alloc_new wr (.cells #[.bool true, .int .i64 n] 44))
                  have hB : Below wr.heap.size wr (wr.alloc (.cells #[.bool true, .int .i64 n] 44)) := (Below.refl _ _).alloc (Nat.le_refl _) _
                  replace HRd := Aside0.mk (HRd.out.under hB)
                  replace HB := Aside0.mk (step_below HB.out hB)
                  clear hB
                  refine (reach_c (f : Int) 8 (l.length : Int) _ _ HRC.out).mono ?_
                  rintro e w' ⟨rfl, hD⟩
                  have hB := hD.below
                  clear hD
                  replace HRd := Aside0.mk (HRd.out.under hB)
                  replace HB := Aside0.mk (step_below HB.out hB)
                  replace HX := Aside0.mk ((hB.block _ (blk_lt HX.out)).trans HX.out)
                  clear hB
                  try clear hx0
                  have hx0 : World.cell? _ ⟨wr.heap.size, 0, none⟩ = some (.bool true) := blk_cell HX.out 0
                  go_wp2_with fail
                  obtain ⟨m0, m1, m2⟩ := num_nb HL.out f 0 8 8 rfl (by omega)
                  rw [Z1.out] at m0 m1 m2
                  have hN := fun W => number_c none 0 0 [] W (Kd.C_nil _ _) (Nat.le_refl _) (fun j => by simp) (by omega)
                  simp only [m0] at hN
                  have hU := u64_w w.heap.size g s c f A l 0 HL.out (by omega)
                  rw [Z1.out] at hU
                  clear m0
                  simp only [Int.reducePow, Nat.reducePow] at m2
                  generalize num [] = x at hN hU m1 m2
                  have HU := Aside0.mk hU
                  clear hU
                  refine (hN _).mono ?_
                  rintro e w' ⟨rfl, hD⟩
                  clear hN
                  have hB := hD.below
                  clear hD
                  replace HRd := Aside0.mk (HRd.out.under hB)
                  replace HB := Aside0.mk (step_below HB.out hB)
                  replace HX := Aside0.mk ((hB.block _ (blk_lt HX.out)).trans HX.out)
                  clear hB
                  try clear hx0
                  have hx0 : World.cell? _ ⟨wr.heap.size, 0, none⟩ = some (.bool true) := blk_cell HX.out 0
                  go_wp2_with fail
                  refine (HU.out _ (below_size HB.out) HRd.out).mono ?_
                  rintro e w' ⟨rfl, hR2, hK⟩
                  replace HB := Aside0.mk (HB.out.trans hK.b)
                  replace HX := Aside0.mk ((hK.k _ (blk_lt HX.out) (by omega)).trans HX.out)
                  clear hx0
                  have hx0 : World.cell? _ ⟨wr.heap.size, 0, none⟩ = some (.bool true) := blk_cell HX.out 0
                  clear HRd
                  have HRd := Aside0.mk hR2
                  clear hR2 hK
                  rw [Z2.out, Z3.out] at HRd
                  go_wp2_with fail
                  refine (left_r HRd.out (f : Int) rfl (by omega)).mono ?_
                  rintro e w' ⟨rfl, hD⟩
                  have hB := hD.below
                  clear hD
                  replace HRd := Aside0.mk (HRd.out.under hB)
                  replace HB := Aside0.mk (step_below HB.out hB)
                  replace HX := Aside0.mk ((hB.block _ (blk_lt HX.out)).trans HX.out)
                  clear hB
                  try clear hx0
                  have hx0 : World.cell? _ ⟨wr.heap.size, 0, none⟩ = some (.bool true) := blk_cell HX.out 0
                  go_wp2_with fail
                  refine (PE.L.err_w g 7 _ HRd.out.c2).mono ?_
                  rintro e w' ⟨rfl, hD⟩
                  have hB := hD.below
                  clear hD
                  replace HRd := Aside0.mk (HRd.out.under hB)
                  replace HB := Aside0.mk (step_below HB.out hB)
                  replace HX := Aside0.mk ((hB.block _ (blk_lt HX.out)).trans HX.out)
                  clear hB
                  try clear hx0
                  have hx0 : World.cell? _ ⟨wr.heap.size, 0, none⟩ = some (.bool true) := blk_cell HX.out 0
                  go_wp2
                  go_roundw
                  case rel => exact ⟨k + 1, f, 7, by omega, by simp, rfl, rfl, HRd, HB⟩
                  case measure => simp [intOf]; omega
                · skip
                  have hrc : wicketgateref01_Reach.f (f : Int) 8 (l.length : Int) = some 0 := by unfold wicketgateref01_Reach.f; rw [s_w64 (by omega) (by omega), if_neg (by omega), if_neg (by omega)]
                  have hFF : ((nf l f 0 8 : Nat) : Int) = (f : Int) + 8 := by unfold nf; rw [if_pos ⟨rfl, by omega, by omega⟩]; omega
                  have z3 : ne l f 0 8 = 0 := by unfold ne; rw [if_pos rfl, if_neg (by omega), if_neg (by omega)]
                  obtain ⟨Aw, cw, hrun, hrd, hlw⟩ := mid_c A0 c0 l f 8 (by omega) (by omega) hf hc0
                  have HRD := Aside0.mk hrd
                  clear hrd
                  have hnle := nb_le l f 0 8
                  have HFF := Aside0.mk hFF
                  clear hFF
                  have Z3 := Aside0.mk z3
                  clear z3
                  have HRC := Aside0.mk hrc
                  clear hrc
                  go_wp2_with fail
                  have HX := Aside0.mk (heap_alloc_new wr (.cells #[.bool true, .int .i64 n] 44))
                  have hB : Below wr.heap.size wr (wr.alloc (.cells #[.bool true, .int .i64 n] 44)) := (Below.refl _ _).alloc (Nat.le_refl _) _
                  replace HRd := Aside0.mk (HRd.out.under hB)
                  replace HB := Aside0.mk (step_below HB.out hB)
                  clear hB
                  refine (reach_c (f : Int) 8 (l.length : Int) _ _ HRC.out).mono ?_
                  rintro e w' ⟨rfl, hD⟩
                  have hB := hD.below
                  clear hD
                  replace HRd := Aside0.mk (HRd.out.under hB)
                  replace HB := Aside0.mk (step_below HB.out hB)
                  replace HX := Aside0.mk ((hB.block _ (blk_lt HX.out)).trans HX.out)
                  clear hB
                  try clear hx0
                  have hx0 : World.cell? _ ⟨wr.heap.size, 0, none⟩ = some (.bool true) := blk_cell HX.out 0
                  go_wp2_with fail
                  obtain ⟨m0, m1, m2⟩ := num_nb HL.out f 0 8 8 rfl (by omega)
                  have hN := number_c Aw (nb l f 0 8).length cw (nb l f 0 8) _ (HRD.out _ (Kd.C_below HR0.out HB.out)) hlw (nb_bytes HL.out _ _ _) (by omega)
                  rw [m0] at hN
                  have hU := u64_w w.heap.size g s c f A l 0 HL.out (by omega)
                  clear m0
                  simp only [Int.reducePow, Nat.reducePow] at m2
                  generalize num (nb l f 0 8) = x at hN hU m1 m2
                  have HU := Aside0.mk hU
                  clear hU
                  refine hN.mono ?_
                  rintro e w' ⟨rfl, hD⟩
                  clear hN
                  have hB := hD.below
                  clear hD
                  replace HRd := Aside0.mk (HRd.out.under hB)
                  replace HB := Aside0.mk (step_below HB.out hB)
                  replace HX := Aside0.mk ((hB.block _ (blk_lt HX.out)).trans HX.out)
                  clear hB
                  try clear hx0
                  have hx0 : World.cell? _ ⟨wr.heap.size, 0, none⟩ = some (.bool true) := blk_cell HX.out 0
                  go_wp2_with fail
                  refine (HU.out _ (below_size HB.out) HRd.out).mono ?_
                  rintro e w' ⟨rfl, hR2, hK⟩
                  replace HB := Aside0.mk (HB.out.trans hK.b)
                  replace HX := Aside0.mk ((hK.k _ (blk_lt HX.out) (by omega)).trans HX.out)
                  clear hx0
                  have hx0 : World.cell? _ ⟨wr.heap.size, 0, none⟩ = some (.bool true) := blk_cell HX.out 0
                  clear HRd
                  have HRd := Aside0.mk hR2
                  clear hR2 hK
                  rw [Z3.out] at HRd
                  go_wp2_with fail
                  refine (left_r HRd.out ((f : Int) + 8) HFF.out (by omega)).mono ?_
                  rintro e w' ⟨rfl, hD⟩
                  have hB := hD.below
                  clear hD
                  replace HRd := Aside0.mk (HRd.out.under hB)
                  replace HB := Aside0.mk (step_below HB.out hB)
                  replace HX := Aside0.mk ((hB.block _ (blk_lt HX.out)).trans HX.out)
                  clear hB
                  try clear hx0
                  have hx0 : World.cell? _ ⟨wr.heap.size, 0, none⟩ = some (.bool true) := blk_cell HX.out 0
                  go_wp2_with fail
                  refine (PE.L.err_w g 0 _ HRd.out.c2).mono ?_
                  rintro e w' ⟨rfl, hD⟩
                  have hB := hD.below
                  clear hD
                  replace HRd := Aside0.mk (HRd.out.under hB)
                  replace HB := Aside0.mk (step_below HB.out hB)
                  replace HX := Aside0.mk ((hB.block _ (blk_lt HX.out)).trans HX.out)
                  clear hB
                  try clear hx0
                  have hx0 : World.cell? _ ⟨wr.heap.size, 0, none⟩ = some (.bool true) := blk_cell HX.out 0
                  go_wp2
                  go_roundw
                  case rel => exact ⟨k + 1, nf l f 0 8, 0, by omega, by simp, congrArg (Value.int .i64) HFF.out.symm, rfl, HRd, HB⟩
                  case measure => simp [intOf]; omega
              · skip
                have e1 : (er == 0) = false := by simpa using her
                have e2 : (er != 0) = true := by simpa using her
                have z1 : nb l f er 8 = [] := by unfold nb; rw [if_neg (by omega)]
                have z2 : nf l f er 8 = f := by unfold nf; rw [if_neg (by omega)]
                have z3 : ne l f er 8 = er := by unfold ne; rw [if_neg her]
                have Z1 := Aside0.mk z1
                clear z1
                have Z2 := Aside0.mk z2
                clear z2
                have Z3 := Aside0.mk z3
                clear z3
                go_wp2_with fail
                have HX := Aside0.mk (heap_alloc_new wr (.cells #[.bool true, .int .i64 n] 44))
                have hB : Below wr.heap.size wr (wr.alloc (.cells #[.bool true, .int .i64 n] 44)) := (Below.refl _ _).alloc (Nat.le_refl _) _
                replace HRd := Aside0.mk (HRd.out.under hB)
                replace HB := Aside0.mk (step_below HB.out hB)
                clear hB
                obtain ⟨m0, m1, m2⟩ := num_nb HL.out f er 8 8 rfl (by omega)
                rw [Z1.out] at m0 m1 m2
                have hN := fun W => number_c none 0 0 [] W (Kd.C_nil _ _) (Nat.le_refl _) (fun j => by simp) (by omega)
                simp only [m0] at hN
                have hU := u64_w w.heap.size g s c f A l er HL.out (by omega)
                rw [Z1.out] at hU
                clear m0
                simp only [Int.reducePow, Nat.reducePow] at m2
                generalize num [] = x at hN hU m1 m2
                have HU := Aside0.mk hU
                clear hU
                refine (hN _).mono ?_
                rintro e w' ⟨rfl, hD⟩
                clear hN
                have hB := hD.below
                clear hD
                replace HRd := Aside0.mk (HRd.out.under hB)
                replace HB := Aside0.mk (step_below HB.out hB)
                replace HX := Aside0.mk ((hB.block _ (blk_lt HX.out)).trans HX.out)
                clear hB
                try clear hx0
                have hx0 : World.cell? _ ⟨wr.heap.size, 0, none⟩ = some (.bool true) := blk_cell HX.out 0
                go_wp2_with fail
                refine (HU.out _ (below_size HB.out) HRd.out).mono ?_
                rintro e w' ⟨rfl, hR2, hK⟩
                replace HB := Aside0.mk (HB.out.trans hK.b)
                replace HX := Aside0.mk ((hK.k _ (blk_lt HX.out) (by omega)).trans HX.out)
                clear hx0
                have hx0 : World.cell? _ ⟨wr.heap.size, 0, none⟩ = some (.bool true) := blk_cell HX.out 0
                clear HRd
                have HRd := Aside0.mk hR2
                clear hR2 hK
                rw [Z2.out, Z3.out] at HRd
                go_wp2_with fail
                refine (left_r HRd.out (f : Int) rfl (by omega)).mono ?_
                rintro e w' ⟨rfl, hD⟩
                have hB := hD.below
                clear hD
                replace HRd := Aside0.mk (HRd.out.under hB)
                replace HB := Aside0.mk (step_below HB.out hB)
                replace HX := Aside0.mk ((hB.block _ (blk_lt HX.out)).trans HX.out)
                clear hB
                try clear hx0
                have hx0 : World.cell? _ ⟨wr.heap.size, 0, none⟩ = some (.bool true) := blk_cell HX.out 0
                go_wp2_with fail
                refine (PE.L.err_w g er _ HRd.out.c2).mono ?_
                rintro e w' ⟨rfl, hD⟩
                have hB := hD.below
                clear hD
                replace HRd := Aside0.mk (HRd.out.under hB)
                replace HB := Aside0.mk (step_below HB.out hB)
                replace HX := Aside0.mk ((hB.block _ (blk_lt HX.out)).trans HX.out)
                clear hB
                try clear hx0
                have hx0 : World.cell? _ ⟨wr.heap.size, 0, none⟩ = some (.bool true) := blk_cell HX.out 0
                go_wp2
                go_roundw
                case rel => exact ⟨k + 1, f, er, by omega, by simp, rfl, rfl, HRd, HB⟩
                case measure => simp [intOf]; omega
        · obtain rfl : k = ls.length := by omega
          go_wp2_with fail
          refine (RD.u8_nil _).mono ?_
          rintro e w' ⟨rfl, hB⟩
          replace HB := Aside0.mk (step_below HB.out hB)
          clear hB
          go_wp2_with fail
          refine (RD.u16_nil _).mono ?_
          rintro e w' ⟨rfl, hB⟩
          replace HB := Aside0.mk (step_below HB.out hB)
          clear hB
          go_wp2_with fail
          refine (RD.u32_nil _).mono ?_
          rintro e w' ⟨rfl, hB⟩
          replace HB := Aside0.mk (step_below HB.out hB)
          clear hB
          go_wp2_with fail
          refine (RD.u64_nil _).mono ?_
          rintro e w' ⟨rfl, hB⟩
          replace HB := Aside0.mk (step_below HB.out hB)
          clear hB
          go_wp2_with fail
          refine (raw_nil 1 _).mono ?_
          rintro e w' ⟨rfl, hB⟩
          replace HB := Aside0.mk (step_below HB.out hB)
          clear hB
          go_wp2_with fail
          refine (left_nil _).mono ?_
          rintro e w' ⟨rfl, hD⟩
          replace HB := Aside0.mk (step_below HB.out hD.below)
          clear hD
          go_wp2_with fail
          refine (err_nil _).mono ?_
          rintro e w' ⟨rfl, hD⟩
          replace HB := Aside0.mk (step_below HB.out hD.below)
          clear hD
          go_wp2
          go_ret
          exact ⟨rfl, HB.out⟩
end Go.Proofs.Ytpejeeemefmafaa.RD
