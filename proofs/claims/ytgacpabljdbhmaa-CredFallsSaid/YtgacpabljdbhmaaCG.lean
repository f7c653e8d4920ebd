import Derived.Test.YtgacpabljdbhmaaCF
import Derived.LoopTactic
namespace Go.Proofs.Ytgacpabljdbhmaa.PC
open Go.RowKit Go.Proofs.YtgacpabljdbhmaaW.PrintWords Go.Proofs.YtgacpabljdbhmaaW.PrintLast Go.Proofs.YtgacpabljdbhmaaW.PrintMore
set_option linter.unusedVariables false
set_option linter.unusedSimpArgs false
namespace L
theorem R_one {α : Type} {d : Kd α} {W : World} {g e base : Nat} {cs : List Value} {ok : Nat → Prop} {x : α} (hg : W.heap[g]? = some (.cells cs.toArray e (0, 0))) (hb : base ≤ g) (hok : ok g) (hm : d.M W base (fun k => ok k ∧ some k ≠ some g) x cs) :
    d.R e W base ok (.slice (some ⟨g, 0, none⟩) 1 1) [x] := by
  have hl := d.K_len (d.K_of_M hm)
  have ht : List.take d.sz cs = cs := List.take_of_length_le (by omega)
  refine ⟨fun k hk => ?_, cs, ⟨by simp [hl], .inr ⟨g, 1, cs.toArray, rfl, hb, hg, Nat.le_refl _, by simp [maxLen], by simp [hl], by simp [ht]⟩⟩, ?_⟩
  · simp [Value.ownBlock] at hk; subst hk; exact hok
  · refine ⟨by simp [hl], fun j p hj => ?_⟩
    cases j with
    | zero =>
      simp at hj
      subst hj
      show d.M W base _ x ((cs.drop (0 * d.sz)).take d.sz)
      rw [Nat.zero_mul, List.drop_zero, ht]
      exact hm
    | succ j => simp at hj
theorem below_of_good (n0 : Int) (n1 n2 : Bool) (n3 : Int) (p0 : Int) (p1 p2 : Bool) (p3 : Int) (hn : okB n0 n3 = true) (h : GoodS ⟨n0, n1, n2, n3⟩ ⟨p0, p1, p2, p3⟩) : BelowV n0 n1 n2 n3 p0 p1 p2 p3 = true := by
  obtain ⟨g1, g2, g3, g4⟩ := h
  unfold BelowV
  rw [hn, show okB p0 p3 = true from g4]
  unfold belowV
  simp only at g1 g2 g3
  by_cases h3 : p3 = 0
  · cases p2
    · simp [h3]
    · obtain rfl := g1 rfl
      have := g3 rfl
      simp [h3, this]
  · obtain rfl := g2 h3
    cases p2
    · simp
    · obtain rfl := g1 rfl
      have := g3 rfl
      simp [this]
theorem Below_e (a0 : Int) (a1 a2 : Bool) (a3 : Int) (b0 : Int) (b1 b2 : Bool) (b3 : Int) (x : Bool) (h : BelowV a0 a1 a2 a3 b0 b1 b2 b3 = x) (w : World) :
    Calls Try.prog 21 #[.agg #[.int .i64 a0, .bool a1, .bool a2, .int .i64 a3], .agg #[.int .i64 b0, .bool b1, .bool b2, .int .i64 b3]] w (RetB x w) := h ▸ Below_w a0 a1 a2 a3 b0 b1 b2 b3 w
def OInv (w : World) (n : Nat) (v i : Value) (wr : World) : Prop :=
  ∃ (k : Nat) (c : S23) (xs : List S23), k ≤ n ∧ k ≤ 60 ∧ i = .int .i64 k ∧ Aside0 (wr.heap[w.heap.size]? = some (.cells #[.int .i64 c.f0, .bool c.f1, .bool c.f2, .int .i64 c.f3] 23 (0, 0))) ∧
    Aside0 (Kd.R k23 23 wr w.heap.size (fun b => b ≠ w.heap.size) v xs) ∧ Aside0 (Below w.heap.size w wr) ∧ Aside0 (okB c.f0 c.f3 = true) ∧ Aside0 (∀ x ∈ xs, GoodS c x) ∧ Aside0 (xs.length = k + 1)
set_option maxHeartbeats 2000000 in
theorem CredFalls_no (a0 : Int) (a1 a2 : Bool) (a3 : Int) (A : Option Addr) (n cap : Nat) (w : World) (ha : okB a0 a3 = false) :
    Calls Try.prog 7 #[.agg #[.int .i64 a0, .bool a1, .bool a2, .int .i64 a3], .slice A n cap] w (fun e w' => e = .returned (.bool true) ∧ Below w.heap.size w w') := by
  have HA := Aside0.mk ((check_total a0 a1 a2 a3).trans (by rw [ha]; rfl) : cred_Check.f a0 a1 a2 a3 = some 210)
  clear ha
  go_enter Try.func7, Try.ntmps7
  go_wp2_with fail
  refine (wakes_w _).mono ?_
  rintro e w1 ⟨rfl, hb⟩
  obtain ⟨hk_c, hB⟩ := boxes1 hb
  clear hb
  have hc_c := blk_cell hk_c.out; have hf_c := blk_frozen hk_c.out; have hl_c := blk_lt hk_c.out
  have HB := Aside0.mk hB; clear hB
  go_wp2_with fail
  refine (cred_Check.calls _ _ _ _ _ _ HA.out).mono ?_
  rintro e w2 ⟨rfl, hb⟩
  have hB := hb
  clear hb
  replace hk_c := Aside0.mk ((hB.block _ (blk_lt hk_c.out)).trans hk_c.out)
  clear hc_c hf_c hl_c
  have hc_c := blk_cell hk_c.out; have hf_c := blk_frozen hk_c.out; have hl_c := blk_lt hk_c.out
  replace HB := Aside0.mk (HB.out.trans (hB.mono HB.out.size)); clear hB
  go_wp2_with fail
  go_ret
  exact ⟨rfl, by repeat (first | (with_reducible exact HB.out) | (with_reducible exact Below.refl _ _) | ((with_reducible refine Below.alloc ?_ ?_ _); rotate_left; (first | exact Nat.le_refl _ | (have hz := HB.out.size; simp; omega))) | ((with_reducible refine Below.setCell ?_ ?_ _); rotate_left; (have hz := HB.out.size; simp; omega)) | (with_reducible refine below_drewN' ?_ _) | (with_reducible refine below_drew' ?_))⟩

set_option maxHeartbeats 4000000 in
theorem CredFalls_yes (a0 : Int) (a1 a2 : Bool) (a3 : Int) (A : Option Addr) (n cap : Nat) (l : List S41) (w : World) (ha : okB a0 a3 = true) (hl : l.length = n) (hC : Kd.C k41 w A n l) :
    Calls Try.prog 7 #[.agg #[.int .i64 a0, .bool a1, .bool a2, .int .i64 a3], .slice A n cap] w (fun e w' => e = .returned (.bool true) ∧ Below w.heap.size w w') := by
  have HA := Aside0.mk ((check_total a0 a1 a2 a3).trans (by rw [ha]; rfl) : cred_Check.f a0 a1 a2 a3 = some 0)
  have HL := Aside0.mk hC
  have hn := hC.2.1
  have HOK := Aside0.mk ha
  clear ha hl hC
  go_enter Try.func7, Try.ntmps7
  go_wp2_with fail
  refine (wakes_w _).mono ?_
  rintro e w1 ⟨rfl, hb⟩
  obtain ⟨hk_c, hB⟩ := boxes1 hb
  clear hb
  have hc_c := blk_cell hk_c.out; have hf_c := blk_frozen hk_c.out; have hl_c := blk_lt hk_c.out
  have HB := Aside0.mk hB; clear hB
  go_wp2_with fail
  refine (cred_Check.calls _ _ _ _ _ _ HA.out).mono ?_
  rintro e w2 ⟨rfl, hb⟩
  have hB := hb
  clear hb
  replace hk_c := Aside0.mk ((hB.block _ (blk_lt hk_c.out)).trans hk_c.out)
  clear hc_c hf_c hl_c
  have hc_c := blk_cell hk_c.out; have hf_c := blk_frozen hk_c.out; have hl_c := blk_lt hk_c.out
  replace HB := Aside0.mk (HB.out.trans (hB.mono HB.out.size)); clear hB
  go_wp2_with fail
  have hlt2 : w.heap.size < w2.heap.size := hl_c
  go_loopw [5, 20] (fun v i wr => OInv w n v i wr) (fun _ i _ => n - (intOf i).toNat)
  case atStart =>
    refine ⟨0, ⟨a0, a1, a2, a3⟩, [⟨a0, a1, a2, a3⟩], Nat.zero_le _, by omega, rfl, ⟨(Below.heap_alloc _ _ _ hlt2).trans hk_c.out⟩, ⟨R_one (cs := [.int .i64 a0, .bool a1, .bool a2, .int .i64 a3]) (heap_alloc_new w2 _) (by omega) (by omega) (k23_mkM _ _ _ ⟨a0, a1, a2, a3⟩)⟩, ⟨HB.out.alloc (by omega) _⟩, HOK, ⟨fun x hx => ?_⟩, ⟨rfl⟩⟩
    simp at hx
    subst hx
    exact good_refl _ HOK.out
  case round =>
    obtain ⟨k, c, xs, hk, hk6, rfl, BK, HR, HB2, HO, HG, HX⟩ := hrel
    clear hc_c hf_c hl_c hk_c HB HA HOK hlt2
    have HCl := Aside0.mk (Kd.C_below HL.out HB2.out)
    have hc_c := blk_cell BK.out; have hf_c := blk_frozen BK.out; have hl_c := blk_lt BK.out
    by_cases hkn : k < n
    · by_cases h60 : k = 60
      · have h60b : ((k : Int) == 60) = true := by simp [h60]
        clear h60
        obtain ⟨ad, rfl, e0, e1, e2, e3⟩ := at_T41 HCl.out (k : Int) (by omega) (by omega)
        simp only [Int.toNat_natCast] at e0 e1 e2 e3
        generalize rd_T41 l (k : Int) = d at e0 e1 e2 e3
        obtain ⟨d0, d1, ⟨d2, d3⟩⟩ := d
        simp only at e0 e1 e2 e3
        go_wp2_with fail
        go_ret
        exact ⟨rfl, by repeat (first | (with_reducible exact HB2.out) | ((with_reducible refine Below.alloc ?_ ?_ _); rotate_left; omega))⟩
      · obtain ⟨ad, rfl, e0, e1, e2, e3⟩ := at_T41 HCl.out (k : Int) (by omega) (by omega)
        simp only [Int.toNat_natCast] at e0 e1 e2 e3
        generalize rd_T41 l (k : Int) = d at e0 e1 e2 e3
        obtain ⟨d0, d1, ⟨d2, d3⟩⟩ := d
        simp only at e0 e1 e2 e3
        obtain ⟨nn, HS, HD⟩ := do_w c d0 d1 d2 d3 HO.out
        have HSt := Aside0.mk HS
        have HDo := Aside0.mk HD
        clear HS HD
        have h60b : ((k : Int) == 60) = false := by
          have : ¬ (k : Int) = 60 := by omega
          simpa using this
        obtain ⟨g, cp, rfl, hgb, hgl, _⟩ := Kd.R_form HR.out (by have := HX.out; omega)
        have hxm : xs.length ≤ 61 := by have := HX.out; omega
        have HXA := Aside0.mk h60
        clear h60
        go_wp2_with fail
        refine (HDo.out _).mono ?_
        rintro e w3 ⟨rfl, hb⟩
        obtain ⟨hk_d, hB⟩ := boxes1 hb
        clear hb hk_d hc_c hf_c hl_c e0 e1 e2 e3 HDo
        replace BK := Aside0.mk ((hB.block _ (blk_lt BK.out)).trans BK.out)
        replace HR := Aside0.mk (Kd.R_below HR.out hB)
        replace HB2 := Aside0.mk (HB2.out.trans (hB.mono HB2.out.size))
        have hg3 : g < w3.heap.size := Nat.lt_of_lt_of_le hgl hB.size
        clear hB hgl
        have hc_c := blk_cell BK.out; have hf_c := blk_frozen BK.out; have hl_c := blk_lt BK.out
        go_wp2_with fail
        refine (cred_Check.calls _ _ _ _ _ _ ((check_total nn.f0 nn.f1 nn.f2 nn.f3).trans (by rw [HSt.out.1]; rfl) : cred_Check.f nn.f0 nn.f1 nn.f2 nn.f3 = some 0)).mono ?_
        rintro e w4 ⟨rfl, hb⟩
        obtain ⟨hk_n, hB⟩ := boxes1 hb
        clear hb hc_c hf_c hl_c
        replace BK := Aside0.mk ((hB.block _ (blk_lt BK.out)).trans BK.out)
        replace HR := Aside0.mk (Kd.R_below HR.out hB)
        replace HB2 := Aside0.mk (HB2.out.trans (hB.mono HB2.out.size))
        have hg4 : g < w4.heap.size := Nat.lt_of_lt_of_le hg3 hB.size
        clear hB
        have hc_c := blk_cell BK.out; have hf_c := blk_frozen BK.out; have hl_c := blk_lt BK.out
        have hc_n := blk_cell hk_n.out; have hf_n := blk_frozen hk_n.out; have hl_n := blk_lt hk_n.out
        go_wp2_with fail
        clear hc_c hf_c hl_c hc_n hf_n hl_n
        obtain ⟨n0, n1, n2, n3⟩ := nn
        go_loopw [35] (fun i wx => ∃ j : Nat, j ≤ xs.length ∧ i = .int .i64 j ∧ Aside0 (Below w4.heap.size w4 wx)) (fun i _ => xs.length - (intOf i).toNat)
        case atStart => exact ⟨0, Nat.zero_le _, rfl, ⟨Below.refl _ _⟩⟩
        case round =>
          obtain ⟨j, hj, rfl, HBx⟩ := hrel
          have BKx := Aside0.mk ((HBx.out.block _ (blk_lt BK.out)).trans BK.out)
          have BNx := Aside0.mk ((HBx.out.block _ (blk_lt hk_n.out)).trans hk_n.out)
          have HRx := Aside0.mk (Kd.R_below HR.out HBx.out)
          have hc_c := blk_cell BKx.out; have hf_c := blk_frozen BKx.out; have hl_c := blk_lt BKx.out
          have hc_n := blk_cell BNx.out; have hf_n := blk_frozen BNx.out; have hl_n := blk_lt BNx.out
          by_cases hjl : j < xs.length
          · obtain ⟨A1, c1, hA1, hc1, hC1⟩ := Kd.R_reads HRx.out
            simp only [Value.slice.injEq] at hA1
            obtain ⟨rfl, _, rfl⟩ := hA1
            obtain ⟨ad1, hA2, e0, e1, e2, e3⟩ := at_T23 hC1 (j : Int) (by omega) (by omega)
            obtain rfl := Option.some.inj hA2
            simp only [Int.toNat_natCast] at e0 e1 e2 e3
            have HGp := Aside0.mk (HSt.out.2 _ (HG.out (rd_T23 xs (j : Int)) (by
              unfold rd_T23
              rw [Int.toNat_natCast, List.getD_eq_getElem?_getD, List.getElem?_eq_getElem hjl]
              exact List.getElem_mem hjl)))
            generalize rd_T23 xs (j : Int) = p at e0 e1 e2 e3 HGp
            obtain ⟨p0, p1, p2, p3⟩ := p
            simp only [add_plain] at e0 e1 e2 e3
            have HBT := Aside0.mk (below_of_good _ _ _ _ _ _ _ _ HSt.out.1 HGp.out)
            go_wp2_with fail
            refine (Below_e _ _ _ _ _ _ _ _ _ HBT.out _).mono ?_
            rintro e w5 ⟨rfl, hb⟩
            obtain ⟨hk_x, hB⟩ := boxes1 hb
            clear hb hc_c hf_c hl_c hc_n hf_n hl_n e0 e1 e2 e3
            have BN5 := (hB.block _ (blk_lt BNx.out)).trans BNx.out
            have hc_n := blk_cell BN5; have hf_n := blk_frozen BN5
            have hc_x := blk_cell hk_x.out; have hf_x := blk_frozen hk_x.out
            have HB5 := Aside0.mk (HBx.out.trans (hB.mono HBx.out.size))
            clear hB BN5
            have hg := HGp.out
            by_cases h3 : p3 = 0
            · subst h3
              cases p2
              · go_wp2_with fail
                go_roundw; (case rel => exact ⟨j + 1, by omega, by go_num, HB5⟩); (case measure => simp [intOf]; omega)
              · obtain rfl : n2 = true := hg.1 rfl
                cases p1
                · obtain rfl : n1 = false := by
                    rcases (hg.2.2.1 rfl).2 with h | h
                    · cases h
                    · exact h
                  go_wp2_with fail
                  go_roundw; (case rel => exact ⟨j + 1, by omega, by go_num, HB5⟩); (case measure => simp [intOf]; omega)
                · go_wp2_with fail
                  go_roundw; (case rel => exact ⟨j + 1, by omega, by go_num, HB5⟩); (case measure => simp [intOf]; omega)
            · obtain rfl : n3 = p3 := hg.2.1 h3
              have h3b : (n3 != 0) = true := by simpa using h3
              cases p2
              · go_wp2_with fail
                go_roundw; (case rel => exact ⟨j + 1, by omega, by go_num, HB5⟩); (case measure => simp [intOf]; omega)
              · obtain rfl : n2 = true := hg.1 rfl
                cases p1
                · obtain rfl : n1 = false := by
                    rcases (hg.2.2.1 rfl).2 with h | h
                    · cases h
                    · exact h
                  go_wp2_with fail
                  go_roundw; (case rel => exact ⟨j + 1, by omega, by go_num, HB5⟩); (case measure => simp [intOf]; omega)
                · go_wp2_with fail
                  go_roundw; (case rel => exact ⟨j + 1, by omega, by go_num, HB5⟩); (case measure => simp [intOf]; omega)
          · have hjx : j = xs.length := by omega
            clear hj
            have hx0 : ¬ ((j : Int) < (xs.length : Int)) := by omega
            go_wp2_with (at_builtin; refine Kd.R_append k23 (w0 := w) w.heap.size rfl (.tmp 78) (.tmp 80) 39 23 (.agg #[(.int .i64 0), (.bool false), (.bool false), (.int .i64 0)]) 24 rfl Try.underlying39 info23 rfl (by decide) (by omega) (.slice (some ⟨g, 0, none⟩) xs.length cp) xs ⟨n0, n1, n2, n3⟩ [.int .i64 n0, .bool n1, .bool n2, .int .i64 n3] (fun b => b ≠ w.heap.size) (fun _ => False) rfl rfl ?aP (fun _ hk => hk.elim) ?aF ?aO ?aB ?aS ?aL ?_; (case aP => exact k23_mkM _ _ _ ⟨n0, n1, n2, n3⟩); (case aF => intro b hb; omega); (case aO => exact HRx.out); (case aB => exact HB2.out.trans (HBx.out.mono HB2.out.size)); (case aS => omega); (case aL => omega); intro v1 w5 HR5 HB5 hg5 hat5; have BK5 := blk_grown BKx.out hg5 (Kd.R_away HRx.out (fun _ hk => hk)); have BN5 := blk_grown BNx.out hg5 (show some w3.heap.size ≠ some g by intro e; have := Option.some.inj e; omega); clear hc_c hf_c hl_c hc_n hf_n hl_n; have hc_c := blk_cell BK5; have hf_c := blk_frozen BK5; have hl_c := blk_lt BK5; have hc_n := blk_cell BN5; have hf_n := blk_frozen BN5; have hl_n := blk_lt BN5; have HR6 := Aside0.mk HR5; have HB6 := Aside0.mk HB5; have BK6 := Aside0.mk BK5; clear HR5 HB5 BK5 BN5 hg5 hat5)
            go_roundw
            case rel =>
              refine ⟨k + 1, ⟨n0, n1, n2, n3⟩, xs ++ [⟨n0, n1, n2, n3⟩], by omega, by have := HXA.out; omega, by go_num, ⟨by simpa using blk_set (blk_set (blk_set (blk_set BK6.out 0 (.int .i64 n0)) 1 (.bool n1)) 2 (.bool n2)) 3 (.int .i64 n3)⟩, ⟨Kd.R_far (Kd.R_far (Kd.R_far (Kd.R_far HR6.out (fun _ hk => hk) _) (fun _ hk => hk) _) (fun _ hk => hk) _) (fun _ hk => hk) _⟩, ⟨(((HB6.out.setCell (Nat.le_refl _) _).setCell (Nat.le_refl _) _).setCell (Nat.le_refl _) _).setCell (Nat.le_refl _) _⟩, ⟨HSt.out.1⟩, ⟨fun x hx => ?_⟩, ⟨by rw [List.length_append, HX.out]; rfl⟩⟩
              rcases List.mem_append.1 hx with hx | hx
              · exact HSt.out.2 x (HG.out x hx)
              · simp at hx
                subst hx
                exact good_refl _ HSt.out.1
            case measure => simp [intOf]; omega
    · have hx0 : ¬ ((k : Int) < (n : Int)) := by omega
      go_wp2_with fail
      go_ret
      exact ⟨rfl, HB2.out⟩
theorem CredFalls_w (a0 : Int) (a1 a2 : Bool) (a3 : Int) (A : Option Addr) (cap : Nat) (l : List S41) (w : World) (hC : Kd.C k41 w A l.length l) :
    Calls Try.prog 7 #[.agg #[.int .i64 a0, .bool a1, .bool a2, .int .i64 a3], .slice A l.length cap] w (fun e w' => e = .returned (.bool true) ∧ Below w.heap.size w w') := by
  cases ha : okB a0 a3
  · exact CredFalls_no a0 a1 a2 a3 A l.length cap w ha
  · exact CredFalls_yes a0 a1 a2 a3 A l.length cap l w ha rfl hC
end L
end Go.Proofs.Ytgacpabljdbhmaa.PC
