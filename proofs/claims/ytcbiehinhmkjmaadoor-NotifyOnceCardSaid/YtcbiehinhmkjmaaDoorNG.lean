import Derived.Test.YtcbiehinhmkjmaaDoorNF
namespace Go.Proofs.YtcbiehinhmkjmaaDoor.NB
open Go.RowKit Go.Proofs.YtcbiehinhmkjmaaDoorW.PrintWords Go.Proofs.YtcbiehinhmkjmaaDoorW.PrintLast Go.Proofs.YtcbiehinhmkjmaaDoorW.PrintMore
open Go.Proofs.YtcbiehinhmkjmaaDoor.PB
set_option linter.unusedVariables false
set_option linter.unusedSimpArgs false

def tk (x : S36) : S36 := ⟨x.f0, x.f1, x.f2, true⟩
def takeI (l : List S36) : Int := idxV (fun x => !x.f3) l
def takeE (l : List S36) : Int := if takeI l = -1 then 4 else 0
def takeL (l : List S36) : List S36 := l.set (takeI l).toNat (tk (rd_T36 l (takeI l)))
def tookV (l : List S36) : S36 := if takeI l = -1 then z36 else tk (rd_T36 l (takeI l))
theorem elem {W : World} {B : Nat} {ok : Nat → Prop} {g n cap k : Nat} {l : List S36} (h : Kd.R k36 36 W B ok (.slice (some ⟨g, 0, none⟩) n cap) l) (hk : k < l.length) :
    W.cell? ⟨g, k * 12, none⟩ = some (.int .u64 (rd_T36 l (k : Int)).f0) ∧ W.cell? ⟨g, k * 12 + 1, none⟩ = some (.int .i64 (rd_T36 l (k : Int)).f1) ∧ W.cell? ⟨g, k * 12 + 2, none⟩ = some (.int .u32 (rd_T36 l (k : Int)).f2.f0) ∧ W.cell? ⟨g, k * 12 + 3, none⟩ = some (.int .u32 (rd_T36 l (k : Int)).f2.f1) ∧ W.cell? ⟨g, k * 12 + 4, none⟩ = some (.int .u64 (rd_T36 l (k : Int)).f2.f2) ∧ W.cell? ⟨g, k * 12 + 5, none⟩ = some (.int .u64 (rd_T36 l (k : Int)).f2.f3.f0) ∧ W.cell? ⟨g, k * 12 + 6, none⟩ = some (.int .u64 (rd_T36 l (k : Int)).f2.f3.f1) ∧ W.cell? ⟨g, k * 12 + 7, none⟩ = some (.int .u64 (rd_T36 l (k : Int)).f2.f3.f2) ∧ W.cell? ⟨g, k * 12 + 8, none⟩ = some (.int .u64 (rd_T36 l (k : Int)).f2.f3.f3) ∧ W.cell? ⟨g, k * 12 + 9, none⟩ = some (.int .u64 (rd_T36 l (k : Int)).f2.f3.f4) ∧ W.cell? ⟨g, k * 12 + 10, none⟩ = some (.int .u64 (rd_T36 l (k : Int)).f2.f3.f5) ∧ W.cell? ⟨g, k * 12 + 11, none⟩ = some (.bool (rd_T36 l (k : Int)).f3) ∧ W.frozen? ⟨g, k * 12 + 11, none⟩ = false := by
  obtain ⟨hn, hnc, hC⟩ := Kd.R_reads' h
  obtain ⟨g', cap', hv, _, _, cs, hcs⟩ := Kd.R_form h (by omega)
  injection hv with hA _ _
  injection hA with hA
  injection hA with hg
  subst hg
  obtain ⟨ad, hA, h0, h1, h2, h3, h4, h5, h6, h7, h8, h9, h10, h11⟩ := at_T36 hC (k : Int) (by omega) (by omega)
  obtain rfl := Option.some.inj hA
  simp only [Int.toNat_natCast, Addr.add_lit, Nat.zero_add] at h0 h1 h2 h3 h4 h5 h6 h7 h8 h9 h10 h11
  exact ⟨h0, h1, h2, h3, h4, h5, h6, h7, h8, h9, h10, h11, blk_frozen hcs _⟩
theorem tk_set {W : World} {B : Nat} {ok : Nat → Prop} {g n cap k : Nat} {l : List S36} (h : Kd.R k36 36 W B ok (.slice (some ⟨g, 0, none⟩) n cap) l) (hk : k < l.length) :
    Kd.R k36 36 (W.setCell ⟨g, k * 12 + 11, none⟩ (.bool true)) B ok (.slice (some ⟨g, 0, none⟩) n cap) (l.set k (tk (rd_T36 l (k : Int)))) := by
  obtain ⟨hn, _, _⟩ := Kd.R_reads' h
  obtain ⟨h0, h1, h2, h3, h4, h5, h6, h7, h8, h9, h10, h11, _⟩ := elem h hk
  have e := (Kd.R_seg (okp := fun _ => False) (j := 11) (c := [.int .u64 (rd_T36 l (k : Int)).f0, .int .i64 (rd_T36 l (k : Int)).f1, .int .u32 (rd_T36 l (k : Int)).f2.f0, .int .u32 (rd_T36 l (k : Int)).f2.f1, .int .u64 (rd_T36 l (k : Int)).f2.f2, .int .u64 (rd_T36 l (k : Int)).f2.f3.f0, .int .u64 (rd_T36 l (k : Int)).f2.f3.f1, .int .u64 (rd_T36 l (k : Int)).f2.f3.f2, .int .u64 (rd_T36 l (k : Int)).f2.f3.f3, .int .u64 (rd_T36 l (k : Int)).f2.f3.f4, .int .u64 (rd_T36 l (k : Int)).f2.f3.f5, .bool (rd_T36 l (k : Int)).f3]) (seg := [.bool true]) (x' := tk (rd_T36 l (k : Int))) h (k : Int) (by omega) (by omega) rfl (by
    intro j u hj
    simp only [Int.toNat_natCast, show k36.sz = 12 from rfl]
    rcases j with _ | _ | _ | _ | _ | _ | _ | _ | _ | _ | _ | _ | j
    all_goals first | (simp only [List.getElem?_cons_zero, List.getElem?_cons_succ, Option.some.injEq] at hj; subst hj; assumption) | (simp at hj)) (by decide) (k36_mkM _ _ _ (tk (rd_T36 l (k : Int)))) (fun _ h => h.elim)).1
  simpa only [Int.toNat_natCast, show k36.sz = 12 from rfl, World.setCells] using e
theorem far12 {W : World} {g Y : Nat} {ob : Obj} (h : W.heap[g]? = some ob) (hne : g ≠ Y) (x0 x1 x2 x3 x4 x5 x6 x7 x8 x9 x10 x11 : Value) : (((((((((((((W.setCell ⟨Y, 0, none⟩ x0).setCell ⟨Y, 1, none⟩ x1).setCell ⟨Y, 2, none⟩ x2).setCell ⟨Y, 3, none⟩ x3).setCell ⟨Y, 4, none⟩ x4).setCell ⟨Y, 5, none⟩ x5).setCell ⟨Y, 6, none⟩ x6).setCell ⟨Y, 7, none⟩ x7).setCell ⟨Y, 8, none⟩ x8).setCell ⟨Y, 9, none⟩ x9).setCell ⟨Y, 10, none⟩ x10).setCell ⟨Y, 11, none⟩ x11)).heap[g]? = some ob := by
  repeat (with_reducible first | exact h | refine (Below.heap_setCell _ _ _ _ hne).trans ?_)
theorem put12 {W : World} {Y t : Nat} {z0 z1 z2 z3 z4 z5 z6 z7 z8 z9 z10 z11 : Value} (h : W.heap[Y]? = some (.cells #[z0, z1, z2, z3, z4, z5, z6, z7, z8, z9, z10, z11] t (0, 0))) (x0 x1 x2 x3 x4 x5 x6 x7 x8 x9 x10 x11 : Value) : (((((((((((((W.setCell ⟨Y, 0, none⟩ x0).setCell ⟨Y, 1, none⟩ x1).setCell ⟨Y, 2, none⟩ x2).setCell ⟨Y, 3, none⟩ x3).setCell ⟨Y, 4, none⟩ x4).setCell ⟨Y, 5, none⟩ x5).setCell ⟨Y, 6, none⟩ x6).setCell ⟨Y, 7, none⟩ x7).setCell ⟨Y, 8, none⟩ x8).setCell ⟨Y, 9, none⟩ x9).setCell ⟨Y, 10, none⟩ x10).setCell ⟨Y, 11, none⟩ x11)).heap[Y]? = some (.cells #[x0, x1, x2, x3, x4, x5, x6, x7, x8, x9, x10, x11] t (0, 0)) := by
  replace h := blk_set h 0 x0
  replace h := blk_set h 1 x1
  replace h := blk_set h 2 x2
  replace h := blk_set h 3 x3
  replace h := blk_set h 4 x4
  replace h := blk_set h 5 x5
  replace h := blk_set h 6 x6
  replace h := blk_set h 7 x7
  replace h := blk_set h 8 x8
  replace h := blk_set h 9 x9
  replace h := blk_set h 10 x10
  replace h := blk_set h 11 x11
  simpa using h
theorem R_far12 {W : World} {B Y : Nat} {ok : Nat → Prop} {v : Value} {l : List S36} (h : Kd.R k36 36 W B ok v l) (hY : ∀ k, ok k → k ≠ Y) (x0 x1 x2 x3 x4 x5 x6 x7 x8 x9 x10 x11 : Value) : Kd.R k36 36 (((((((((((((W.setCell ⟨Y, 0, none⟩ x0).setCell ⟨Y, 1, none⟩ x1).setCell ⟨Y, 2, none⟩ x2).setCell ⟨Y, 3, none⟩ x3).setCell ⟨Y, 4, none⟩ x4).setCell ⟨Y, 5, none⟩ x5).setCell ⟨Y, 6, none⟩ x6).setCell ⟨Y, 7, none⟩ x7).setCell ⟨Y, 8, none⟩ x8).setCell ⟨Y, 9, none⟩ x9).setCell ⟨Y, 10, none⟩ x10).setCell ⟨Y, 11, none⟩ x11)) B ok v l := by
  repeat (with_reducible first | exact h | refine Kd.R_far ?_ (by exact hY) _)
theorem stay12 {S : Nat → Prop} {W0 W : World} {B Y : Nat} (h : Stay S B W0 W) (hY : S Y) (x0 x1 x2 x3 x4 x5 x6 x7 x8 x9 x10 x11 : Value) : Stay S B W0 (((((((((((((W.setCell ⟨Y, 0, none⟩ x0).setCell ⟨Y, 1, none⟩ x1).setCell ⟨Y, 2, none⟩ x2).setCell ⟨Y, 3, none⟩ x3).setCell ⟨Y, 4, none⟩ x4).setCell ⟨Y, 5, none⟩ x5).setCell ⟨Y, 6, none⟩ x6).setCell ⟨Y, 7, none⟩ x7).setCell ⟨Y, 8, none⟩ x8).setCell ⟨Y, 9, none⟩ x9).setCell ⟨Y, 10, none⟩ x10).setCell ⟨Y, 11, none⟩ x11)) := by
  repeat (with_reducible first | exact h | refine Stay.set ?_ _ _ (fun _ => hY))
set_option maxRecDepth 100000 in
set_option maxHeartbeats 4000000 in
theorem take1_w (B X C : Nat) (nx : Int) (v : Value) (l : List S36) (W : World) (hXB : X < B) (hB : B ≤ W.heap.size) (hCX : C ≠ X) (hCB : C < B) (hl : l.length ≤ 100) (hD : Desk W B X nx v l) (hC : W.heap[C]? = some (.cells #[.int .u64 0, .int .i64 0, .int .u32 0, .int .u32 0, .int .u64 0, .int .u64 0, .int .u64 0, .int .u64 0, .int .u64 0, .int .u64 0, .int .u64 0, .bool false] 36 (0, 0))) :
    Calls Tryd.prog 30 #[.pointer (some ⟨X, 0, none⟩), .pointer (some ⟨C, 0, none⟩)] W fun e W' => e = .returned (.int .i64 (takeE l)) ∧ (takeE l = 0 → ∃ v', Desk W' B X nx v' (takeL l)) ∧ W'.heap[C]? = some (.cells #[.int .u64 (tookV l).f0, .int .i64 (tookV l).f1, .int .u32 (tookV l).f2.f0, .int .u32 (tookV l).f2.f1, .int .u64 (tookV l).f2.f2, .int .u64 (tookV l).f2.f3.f0, .int .u64 (tookV l).f2.f3.f1, .int .u64 (tookV l).f2.f3.f2, .int .u64 (tookV l).f2.f3.f3, .int .u64 (tookV l).f2.f3.f4, .int .u64 (tookV l).f2.f3.f5, .bool (tookV l).f3] 36 (0, 0)) ∧ Stay (fun q => q = X ∨ q = C) B W W' := by
  obtain ⟨A, c, rfl⟩ := Kd.R_slice hD.2
  obtain ⟨m, hm⟩ : ∃ m, m = l.length := ⟨_, rfl⟩
  have HM := Lib.hid hm
  have HD := Lib.hid hD
  have HC := Lib.hid hC
  have hx1 := blk_cell hD.1 1
  have HCC := Lib.hid (Kd.R_reads' hD.2).2.2
  rw [← hm] at HD hx1
  clear hC hD hm
  rcases idx_cases (fun x => !x.f3) l with ⟨hI, _⟩ | ⟨k, hk, hI, _, _⟩
  · have HI := Lib.hid hI
    have HE := Lib.hid (show takeE l = 4 from if_pos hI)
    have HT := Lib.hid (show tookV l = z36 from if_pos hI)
    clear hI
    go_enter Tryd.func30, Tryd.ntmps30
    go_wp2_with (first | (go_at_call 31; (rw [HM.out]); (with_reducible refine (idx32_w A c l (by omega) _ HCC.out).mono ?_); rintro e w2 ⟨he, hb⟩; rw [HI.out] at he; subst he; have HB2 := Lib.hid hb; clear hb hx1))
    go_ret
    refine ⟨by rw [HE.out]; rfl, fun h => absurd (HE.out.symm.trans h) (by decide), by rw [HT.out]; exact (HB2.out.block _ (blk_lt HC.out)).trans HC.out, Stay.below HB2.out hB⟩
  · have hpos : 0 < l.length := by omega
    obtain ⟨g, cap, hv, hbg, hgs, _⟩ := Kd.R_form HD.out.2 hpos
    injection hv with hA hml hcap
    clear hml
    subst hA hcap
    have hne : ¬ (k : Int) = -1 := by omega
    have HI := Lib.hid hI
    have HE := Lib.hid (show takeE l = 0 by unfold takeE takeI; rw [hI, if_neg hne])
    have HT := Lib.hid (show tookV l = tk (rd_T36 l (k : Int)) by unfold tookV takeI; rw [hI, if_neg hne])
    have HL := Lib.hid (show takeL l = l.set k (tk (rd_T36 l (k : Int))) by unfold takeL takeI; rw [hI]; simp)
    have hkm : k < m := by have := HM.out; omega
    have HK := Lib.hid hk
    clear hI hne hpos hk
    have hk0 : (0 : Int) ≤ (k : Int) := by omega
    have hk1 : (k : Int) < (m : Int) := by omega
    obtain ⟨x, hx⟩ : ∃ x, x = rd_T36 l (k : Int) := ⟨_, rfl⟩
    rw [← hx] at HT HL
    have HX := Lib.hid hx
    clear hx
    go_enter Tryd.func30, Tryd.ntmps30
    go_wp2_with (first | (go_at_call 31; (rw [HM.out]); (with_reducible refine (idx32_w _ c l (by omega) _ HCC.out).mono ?_); rintro e w2 ⟨he, hb⟩; rw [HI.out] at he; subst he; have HB2 := Lib.hid hb; clear hb hx1; have HD2 := Lib.hid (HD.out.below HB2.out); have hel := elem HD2.out.2 HK.out; rw [← HX.out] at hel; obtain ⟨e0, e1, e2, e3, e4, e5, e6, e7, e8, e9, e10, e11, ef⟩ := hel; have y1 := blk_cell HD2.out.1 1; have HC2 := (HB2.out.block _ (blk_lt HC.out)).trans HC.out; have hgl := World.block_lt_of_cell? _ _ e0; have hgc : g ≠ C := (by omega); have hcg := Ne.symm hgc; have hgx : g ≠ X := (by omega); have hxg := Ne.symm hgx; have c0 := blk_cell HC2 0; have cf0 := blk_frozen HC2 0; have c1 := blk_cell HC2 1; have cf1 := blk_frozen HC2 1; have c2 := blk_cell HC2 2; have cf2 := blk_frozen HC2 2; have c3 := blk_cell HC2 3; have cf3 := blk_frozen HC2 3; have c4 := blk_cell HC2 4; have cf4 := blk_frozen HC2 4; have c5 := blk_cell HC2 5; have cf5 := blk_frozen HC2 5; have c6 := blk_cell HC2 6; have cf6 := blk_frozen HC2 6; have c7 := blk_cell HC2 7; have cf7 := blk_frozen HC2 7; have c8 := blk_cell HC2 8; have cf8 := blk_frozen HC2 8; have c9 := blk_cell HC2 9; have cf9 := blk_frozen HC2 9; have c10 := blk_cell HC2 10; have cf10 := blk_frozen HC2 10; have c11 := blk_cell HC2 11; have cf11 := blk_frozen HC2 11; have cl := blk_lt HC2; have HC3 := Lib.hid HC2; clear HC2))
    go_ret
    have HR3 := tk_set HD2.out.2 HK.out
    refine ⟨by rw [HE.out]; rfl, fun _ => ⟨.slice (some ⟨g, 0, none⟩) m c, ?_, ?_⟩, ?_, ?_⟩
    · exact far12 ((Below.heap_setCell _ _ _ _ hxg).trans HD2.out.1) (Ne.symm hCX) _ _ _ _ _ _ _ _ _ _ _ _
    · rw [HL.out, HX.out]
      exact R_far12 HR3 (fun q hq => by omega) _ _ _ _ _ _ _ _ _ _ _ _
    · rw [HT.out]
      exact put12 ((Below.heap_setCell _ _ _ _ hcg).trans HC3.out) _ _ _ _ _ _ _ _ _ _ _ _
    · exact stay12 ((Stay.below HB2.out hB).set _ _ (fun q => absurd q (by dsimp only; omega))) (Or.inr rfl) _ _ _ _ _ _ _ _ _ _ _ _
end Go.Proofs.YtcbiehinhmkjmaaDoor.NB
