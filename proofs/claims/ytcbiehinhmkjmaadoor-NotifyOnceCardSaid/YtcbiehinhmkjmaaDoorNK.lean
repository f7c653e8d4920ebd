import Derived.Test.YtcbiehinhmkjmaaDoorNI
namespace Go.Proofs.YtcbiehinhmkjmaaDoor.NB
open Go.RowKit Go.Proofs.YtcbiehinhmkjmaaDoorW.PrintWords Go.Proofs.YtcbiehinhmkjmaaDoorW.PrintLast Go.Proofs.YtcbiehinhmkjmaaDoorW.PrintMore
open Go.Proofs.YtcbiehinhmkjmaaDoor.PB
set_option linter.unusedVariables false
set_option linter.unusedSimpArgs false
abbrev NKb0 : Array Bool := #[false, false, false, false, false, false, false, false, false, false]
abbrev NKb1 : Array Bool := #[true, false, false, false, false, false, false, false, false, false]
abbrev NKb2 : Array Bool := #[true, true, false, false, false, false, false, false, false, false]
abbrev NKb3 : Array Bool := #[true, true, true, false, false, false, false, false, false, false]
abbrev NKb4 : Array Bool := #[true, true, true, true, false, false, false, false, false, false]
abbrev NKb5 : Array Bool := #[true, true, true, true, true, false, false, false, false, false]
abbrev NKb6 : Array Bool := #[true, true, true, true, true, true, false, false, false, false]
abbrev NKb7 : Array Bool := #[true, true, true, true, true, true, true, false, false, false]
abbrev NKb8 : Array Bool := #[true, true, true, true, true, true, true, true, false, false]
abbrev NKb9 : Array Bool := #[true, true, true, true, true, true, true, true, true, false]
abbrev NKb10 : Array Bool := #[true, true, true, true, true, true, true, true, true, true]
open Go.Proofs.YtcbiehinhmkjmaaDoor.PE.L (Tab)

def ansI (l : List S36) (ck : Int) : Int := idxV (fun x => x.f0 == ck) l
def ansE (l : List S36) (ck : Int) (go : Bool) (ret : Int) : Int := if ansI l ck = -1 then 4 else if Rep go ret then (if (rd_T36 l (ansI l ck)).f3 = true then 0 else 2) else 310
def ansL (l : List S36) (ck : Int) : List S36 := cut l (ansI l ck).toNat
def ansT (l : List S36) (ck : Int) (go : Bool) (ret : Int) : Int := if ansE l ck go ret = 0 then tidOf l (ansI l ck) else 0
def ansG (l : List S36) (ck : Int) (go : Bool) (ret : Int) : Bool := decide (ansE l ck go ret = 0) && go
def ansV (l : List S36) (ck : Int) (go : Bool) (ret : Int) : Int := if ansE l ck go ret = 0 then ret else 0
theorem bel_al {w w' : World} (h : Below w.heap.size w w') (o : Obj) : Below w.heap.size w (w'.alloc o) := h.alloc h.size o
theorem tab_far {w : World} (h : Tab w) {p : Addr} (hp : p.block ≠ 0) (u : Value) : Tab (w.setCell p u) :=
 ⟨by rw [World.size_setCell]; exact h.1, fun i => by
  have hb : (w.setCell p u).heap[0]? = w.heap[0]? := Below.heap_setCell w p u 0 (fun e => hp e.symm)
  have h2 := h.2 i
  unfold World.cell? at h2 ⊢
  rw [hb]
  exact h2⟩
def an1.T1 : Bool × List (List Nat × List Nat) := (true, [([], []), ([0], [0]), ([1], [1]), ([], []), ([2, 3], [2, 3]), ([4], [4]), ([5], [5]), ([5], [5]), ([6, 4, 0, 1, 2, 3, 4, 5, 6], [6]), ([7, 8, 0, 1, 2, 3, 4, 5, 6, 7, 8], [7])])
def an1.B1 : List Nat := [0, 1, 3, 0, 15, 31, 63, 63, 127, 511]
theorem an1.tab1 : rtab .any (opsOf Tryd.f33 1) = an1.T1 := by kernel_rfl
theorem an1.bits1 : waitsOk an1.T1.2 an1.B1 = true := by kernel_rfl
def an9.T9 : Bool × List (List Nat × List Nat) := (true, [([], []), ([0], [0]), ([1], [1]), ([2], [2]), ([], []), ([3, 4], [3, 4]), ([5], [5]), ([6], [6]), ([], []), ([7, 0, 1, 2, 3, 4, 5, 6, 7], [7]), ([8, 9, 0, 1, 2, 3, 4, 5, 6, 7, 8, 9], [8])])
def an9.B9 : List Nat := [0, 1, 3, 7, 0, 31, 63, 127, 0, 255, 1023]
theorem an9.tab9 : rtab .any (opsOf Tryd.f33 9) = an9.T9 := by kernel_rfl
theorem an9.bits9 : waitsOk an9.T9.2 an9.B9 = true := by kernel_rfl
theorem far7 {W : World} {g Y : Nat} {ob : Obj} (h : W.heap[g]? = some ob) (hne : g ≠ Y) (x0 x1 x2 x3 x4 x5 x6 : Value) : ((((((((W.setCell ⟨Y, 0, none⟩ x0).setCell ⟨Y, 1, none⟩ x1).setCell ⟨Y, 2, none⟩ x2).setCell ⟨Y, 3, none⟩ x3).setCell ⟨Y, 4, none⟩ x4).setCell ⟨Y, 5, none⟩ x5).setCell ⟨Y, 6, none⟩ x6)).heap[g]? = some ob := by
 repeat (with_reducible first | exact h | refine (Below.heap_setCell _ _ _ _ hne).trans ?_)
theorem put7 {W : World} {Y t : Nat} {z0 z1 z2 z3 z4 z5 z6 : Value} (h : W.heap[Y]? = some (.cells #[z0, z1, z2, z3, z4, z5, z6] t (0, 0))) (x0 x1 x2 x3 x4 x5 x6 : Value) : ((((((((W.setCell ⟨Y, 0, none⟩ x0).setCell ⟨Y, 1, none⟩ x1).setCell ⟨Y, 2, none⟩ x2).setCell ⟨Y, 3, none⟩ x3).setCell ⟨Y, 4, none⟩ x4).setCell ⟨Y, 5, none⟩ x5).setCell ⟨Y, 6, none⟩ x6)).heap[Y]? = some (.cells #[x0, x1, x2, x3, x4, x5, x6] t (0, 0)) := by
 replace h := blk_set h 0 x0
 replace h := blk_set h 1 x1
 replace h := blk_set h 2 x2
 replace h := blk_set h 3 x3
 replace h := blk_set h 4 x4
 replace h := blk_set h 5 x5
 replace h := blk_set h 6 x6
 simpa using h
theorem R_far7 {W : World} {B Y : Nat} {ok : Nat → Prop} {v : Value} {l : List S36} (h : Kd.R k36 36 W B ok v l) (hY : ∀ k, ok k → k ≠ Y) (x0 x1 x2 x3 x4 x5 x6 : Value) : Kd.R k36 36 ((((((((W.setCell ⟨Y, 0, none⟩ x0).setCell ⟨Y, 1, none⟩ x1).setCell ⟨Y, 2, none⟩ x2).setCell ⟨Y, 3, none⟩ x3).setCell ⟨Y, 4, none⟩ x4).setCell ⟨Y, 5, none⟩ x5).setCell ⟨Y, 6, none⟩ x6)) B ok v l := by
 repeat (with_reducible first | exact h | refine Kd.R_far ?_ (by exact hY) _)
theorem stay7 {S : Nat → Prop} {W0 W : World} {B Y : Nat} (h : Stay S B W0 W) (hY : S Y) (x0 x1 x2 x3 x4 x5 x6 : Value) : Stay S B W0 ((((((((W.setCell ⟨Y, 0, none⟩ x0).setCell ⟨Y, 1, none⟩ x1).setCell ⟨Y, 2, none⟩ x2).setCell ⟨Y, 3, none⟩ x3).setCell ⟨Y, 4, none⟩ x4).setCell ⟨Y, 5, none⟩ x5).setCell ⟨Y, 6, none⟩ x6)) := by
 repeat (with_reducible first | exact h | refine Stay.set ?_ _ _ (fun _ => hY))
set_option maxRecDepth 100000 in
set_option maxHeartbeats 4000000 in
theorem answer1_w (B X C R D M : Nat) (nx : Int) (v : Value) (l : List S36) (ck : Int) (go : Bool) (ret : Int) (W : World) (hXB : X < B) (hB : B ≤ W.heap.size) (hCB : C < B) (hRB : R < B) (hDB : D < B) (hMB : M < B) (hDX : D ≠ X) (hMX : M ≠ X) (hMD : M ≠ D) (hl : l.length ≤ 100) (hok : Dok nx l) (hT : Tab W) (hD : Desk W B X nx v l) (hC : W.heap[C]? = some (.cells #[.int .u64 ck] 22 (0, 0))) (hR : W.heap[R]? = some (.cells #[.bool go, .int .i64 ret] 42 (0, 0))) (hDD : W.heap[D]? = some (.cells #[.int .i64 0] 3 (0, 0))) (hM : W.heap[M]? = some (.cells #[.int .i64 0, .bool false, .int .i64 0, .bool false, .int .u16 0, .bool false, .int .i64 0] 45 (0, 0))) :
  Calls Tryd.prog 33 #[.pointer (some ⟨X, 0, none⟩), .pointer (some ⟨C, 0, none⟩), .pointer (some ⟨R, 0, none⟩), .pointer (some ⟨D, 0, none⟩), .pointer (some ⟨M, 0, none⟩)] W fun e W' => e = .returned (.int .i64 (ansE l ck go ret)) ∧ (ansE l ck go ret = 0 → ∃ v', Desk W' B X nx v' (ansL l ck)) ∧ (W'.heap[D]? = some (.cells #[.int .i64 (ansT l ck go ret)] 3 (0, 0)) ∧ W'.heap[M]? = some (.cells #[.int .i64 0, .bool (ansG l ck go ret), .int .i64 (ansV l ck go ret), .bool false, .int .u16 0, .bool false, .int .i64 0] 45 (0, 0))) ∧ Stay (fun q => q = X ∨ q = D ∨ q = M) B W W' := by
 have HDX := Lib.hid hDX
 have HMX := Lib.hid hMX
 have HMD := Lib.hid hMD
 clear hDX hMX hMD
 obtain ⟨i, b, hby, hb1, hb2⟩ := by_f 1000 (by decide) nx l ck hl (dok_sorted hok)
 have hs := dok_sorted hok
 obtain ⟨A, c, rfl⟩ := Kd.R_slice hD.2
 have hRR := Kd.R_reads' hD.2
 obtain ⟨m, hm⟩ : ∃ m, m = l.length := ⟨_, rfl⟩
 have HM := Lib.hid hm
 have HBY : Hid (∀ V : World, Kd.C k36 V A m l → Calls Tryd.prog 34 #[.agg #[.int .u64 nx, .slice A m c], .int .u64 ck] V fun e w' => e = .returned (.tuple #[.int .i64 (i : Int), .bool b]) ∧ Below V.heap.size V w') := by
  rw [hm]
  exact Lib.hid (fun V h => notify_by.calls 1000 nx A c l ck (i : Int) b V h hRR.2.1 hby)
 have HD := Lib.hid hD
 have HR := Lib.hid hR
 have HT := Lib.hid hT
 have HDD := Lib.hid hDD
 have HM4 := Lib.hid hM
 have HC1 := Lib.hid (blk_drew hC)
 have HCC1 := Lib.hid (Kd.C_drew hRR.2.2)
 have HX1 := Lib.hid (blk_drew hD.1)
 have HB1 := Lib.hid (below_drew (Below.refl W.heap.size W))
 rw [← hm] at HD HX1 HCC1
 clear hC hR hD hm hDD hM hT hRR hby
 cases b with
 | false =>
  have HV := Lib.hid (show ansE l ck go ret = 4 from if_pos (idx_miss (fun q hq => by simpa using hb2 rfl q hq)))
  have HV2 := Lib.hid (show ansT l ck go ret = 0 by unfold ansT; rw [HV.out, if_neg (by decide)])
  have HV3 := Lib.hid (show ansG l ck go ret = false by unfold ansG; rw [HV.out]; rfl)
  have HV4 := Lib.hid (show ansV l ck go ret = 0 by unfold ansV; rw [HV.out, if_neg (by decide)])
  clear hb1 hb2 hs hok
  by_cases hrep : Rep go ret
  ·skip
   have HG1 := Lib.hid (show behRu go ret = go by unfold behRu; rw [decide_eq_true hrep, Bool.true_and])
   have HG2 := Lib.hid (show behRe go ret = ret from if_pos hrep)
   have HG3 := Lib.hid (show behE go ret = 0 from if_pos hrep)
   clear hrep
   go_enter Tryd.func33, Tryd.ntmps33
   go_wp2_with fail
   refine start_ (n := 10) (S := fun w' => Below W.drew.heap.size W.drew w') (ds := []) NKb0 (by kernel_rfl) rfl rfl (Below.refl _ _) (fun hHeld => ?_); refine with_tabW an1.tab1 an1.bits1 (fun HT_ HW_ => ?_)
   generalize W.drew = w1 at HX1 HC1 HCC1 HB1 hHeld ⊢
   refine pure_ (i := 0) (N := some 12) (v := ?_) (a' := ?_) NKb1 rfl rfl (any_of HT_.out (by kernel_rfl)) (fun _ _ _ h => h) (Or.inl ⟨by rfl, ?_⟩) ?_ ?_
   rotate_left
   ·intro w'
    go_simp
    with_reducible rfl
   rotate_left
   ·(try simp only [Act.put, List.setIfInBounds_toArray, List.set_cons_zero, List.set_cons_succ])
    rfl
   refine pure_ (i := 1) (N := some 13) (v := ?_) (a' := ?_) NKb2 rfl rfl (any_of HT_.out (by kernel_rfl)) (fun _ _ _ h => h) (Or.inl ⟨by rfl, ?_⟩) ?_ ?_
   rotate_left
   ·intro w'
    go_simp
    with_reducible rfl
   rotate_left
   ·(try simp only [Act.put, List.setIfInBounds_toArray, List.set_cons_zero, List.set_cons_succ])
    rfl
   refine take_ (i := 2) (N := some 14) (v := ?_) (a' := ?_) NKb3 rfl rfl (take_ofW HT_.out HW_.out (by kernel_rfl)) (fun _ _ _ h => h) (Or.inl ⟨by rfl, ?_⟩) hHeld ?_ ?_
   rotate_left
   ·intro w' hS_
    have hx_0 : w'.cell? ⟨X, 0, none⟩ = _ := blk_cell ((hS_.block X (blk_lt HX1.out)).trans HX1.out) 0
    have hx_1 : w'.cell? ⟨X, 1, none⟩ = _ := blk_cell ((hS_.block X (blk_lt HX1.out)).trans HX1.out) 1
    go_simp
    with_reducible rfl
   rotate_left
   ·(try simp only [Act.put, List.setIfInBounds_toArray, List.set_cons_zero, List.set_cons_succ])
    rfl
   refine take_ (i := 3) (N := some 15) (v := ?_) (a' := ?_) NKb4 rfl rfl (take_ofW HT_.out HW_.out (by kernel_rfl)) (fun _ _ _ h => h) (Or.inl ⟨by rfl, ?_⟩) hHeld ?_ ?_
   rotate_left
   ·intro w' hS_
    have hx_ : w'.cell? ⟨C, 0, none⟩ = _ := blk_cell ((hS_.block C (blk_lt HC1.out)).trans HC1.out) 0
    go_simp
    with_reducible rfl
   rotate_left
   ·(try simp only [Act.put, List.setIfInBounds_toArray, List.set_cons_zero, List.set_cons_succ])
    rfl
   refine one_ (i := 4) (N := some 16) NKb5 rfl rfl (one_of HT_.out (by kernel_rfl)) (by decide) (fun K hK => ?_)
   refine goes_ Tryd.func34 (by kernel_rfl) rfl #[.agg #[.int .u64 nx, .slice A m c], .int .u64 ck] (by rfl) rfl rfl (by (try simp only [List.map_toArray, List.map_cons, List.map_nil]); first | done | rfl) ?_
   refine (HBY.out _ (Kd.C_below HCC1.out hHeld)).mono ?_
   rintro e w2 ⟨rfl, hb⟩
   refine ⟨_, rfl, ?_⟩
   have HN := hHeld.trans (hb.mono hHeld.size)
   clear hb
   clear hHeld
   refine hK.out _ _ (HN) (fun hHeld => ?_)
   clear hK K
   refine norm_ (a' := ?_) ?_ ?_
   rotate_left
   ·show Act.put _ (some 16) _ = _
    (try simp only [Act.put, List.setIfInBounds_toArray, List.set_cons_zero, List.set_cons_succ])
    rfl
   refine pure_ (i := 5) (N := some 11) (v := ?_) (a' := ?_) NKb6 rfl rfl (any_of HT_.out (by kernel_rfl)) (fun _ _ _ h => h) (Or.inl ⟨by rfl, ?_⟩) ?_ ?_
   rotate_left
   ·intro w'
    go_simp
    with_reducible rfl
   rotate_left
   ·(try simp only [Act.put, List.setIfInBounds_toArray, List.set_cons_zero, List.set_cons_succ])
    rfl
   refine pure_ (i := 6) (N := some 17) (v := ?_) (a' := ?_) NKb7 rfl rfl (any_of HT_.out (by kernel_rfl)) (fun _ _ _ h => h) (Or.inl ⟨by rfl, ?_⟩) ?_ ?_
   rotate_left
   ·intro w'
    go_simp
    with_reducible rfl
   rotate_left
   ·(try simp only [Act.put, List.setIfInBounds_toArray, List.set_cons_zero, List.set_cons_succ])
    rfl
   refine pure_ (i := 7) (N := some 18) (v := ?_) (a' := ?_) NKb8 rfl rfl (any_of HT_.out (by kernel_rfl)) (fun _ _ _ h => h) (Or.inl ⟨by rfl, ?_⟩) ?_ ?_
   rotate_left
   ·intro w'
    go_simp
    with_reducible rfl
   rotate_left
   ·(try simp only [Act.put, List.setIfInBounds_toArray, List.set_cons_zero, List.set_cons_succ])
    rfl
   refine pure_ (i := 8) (N := some 7) (v := ?_) (a' := ?_) NKb9 rfl rfl (any_of HT_.out (by kernel_rfl)) (fun _ _ _ h => h) (Or.inl ⟨by rfl, ?_⟩) ?_ ?_
   rotate_left
   ·intro w'
    go_simp
    with_reducible rfl
   rotate_left
   ·(try simp only [Act.put, List.setIfInBounds_toArray, List.set_cons_zero, List.set_cons_succ])
    rfl
   refine pure_ (i := 9) (N := some 8) (v := ?_) (a' := ?_) NKb10 rfl rfl (any_of HT_.out (by kernel_rfl)) (fun _ _ _ h => h) (Or.inl ⟨by rfl, ?_⟩) ?_ ?_
   rotate_left
   ·intro w'
    go_simp
    with_reducible rfl
   rotate_left
   ·(try simp only [Act.put, List.setIfInBounds_toArray, List.set_cons_zero, List.set_cons_succ])
    rfl
   refine done_ (done_of HT_.out (by kernel_rfl)) ?_
   clear HT_ HW_
   have HB2 := Lib.hid (HB1.out.trans (hHeld.mono HB1.out.size))
   clear hHeld
   have HD2 := Lib.hid (HD.out.below HB2.out)
   have HR2 := Lib.hid ((HB2.out.block _ (blk_lt HR.out)).trans HR.out)
   have r0 := blk_cell HR2.out 0
   have r1 := blk_cell HR2.out 1
   go_wp2_with (first | (go_at_call 35; (with_reducible refine (behind_w go ret _ (HT.out.below HB2.out)).mono ?_); rintro e w3 ⟨he, hb⟩; rw [HG1.out, HG2.out, HG3.out] at he; subst he; have HB3 := Lib.hid (HB2.out.trans (hb.mono HB2.out.size)); have HB4 := Lib.hid (bel_al HB3.out (.cells #[.int .i64 0, .bool go, .int .i64 ret, .bool false, .int .u16 0, .bool false, .int .i64 0] 45)); clear hb r0 r1))
   go_ret
   exact ⟨by rw [HV.out]; rfl, fun h => absurd (HV.out.symm.trans h) (by decide), ⟨by rw [HV2.out]; exact (HB4.out.block _ (blk_lt HDD.out)).trans HDD.out, by rw [HV3.out, HV4.out]; exact (HB4.out.block _ (blk_lt HM4.out)).trans HM4.out⟩, Stay.below HB4.out hB⟩
  ·skip
   have HG1 := Lib.hid (show behRu go ret = false by unfold behRu; rw [decide_eq_false hrep, Bool.false_and])
   have HG2 := Lib.hid (show behRe go ret = 0 from if_neg hrep)
   have HG3 := Lib.hid (show behE go ret = 310 from if_neg hrep)
   clear hrep
   go_enter Tryd.func33, Tryd.ntmps33
   go_wp2_with fail
   refine start_ (n := 10) (S := fun w' => Below W.drew.heap.size W.drew w') (ds := []) NKb0 (by kernel_rfl) rfl rfl (Below.refl _ _) (fun hHeld => ?_); refine with_tabW an1.tab1 an1.bits1 (fun HT_ HW_ => ?_)
   generalize W.drew = w1 at HX1 HC1 HCC1 HB1 hHeld ⊢
   refine pure_ (i := 0) (N := some 12) (v := ?_) (a' := ?_) NKb1 rfl rfl (any_of HT_.out (by kernel_rfl)) (fun _ _ _ h => h) (Or.inl ⟨by rfl, ?_⟩) ?_ ?_
   rotate_left
   ·intro w'
    go_simp
    with_reducible rfl
   rotate_left
   ·(try simp only [Act.put, List.setIfInBounds_toArray, List.set_cons_zero, List.set_cons_succ])
    rfl
   refine pure_ (i := 1) (N := some 13) (v := ?_) (a' := ?_) NKb2 rfl rfl (any_of HT_.out (by kernel_rfl)) (fun _ _ _ h => h) (Or.inl ⟨by rfl, ?_⟩) ?_ ?_
   rotate_left
   ·intro w'
    go_simp
    with_reducible rfl
   rotate_left
   ·(try simp only [Act.put, List.setIfInBounds_toArray, List.set_cons_zero, List.set_cons_succ])
    rfl
   refine take_ (i := 2) (N := some 14) (v := ?_) (a' := ?_) NKb3 rfl rfl (take_ofW HT_.out HW_.out (by kernel_rfl)) (fun _ _ _ h => h) (Or.inl ⟨by rfl, ?_⟩) hHeld ?_ ?_
   rotate_left
   ·intro w' hS_
    have hx_0 : w'.cell? ⟨X, 0, none⟩ = _ := blk_cell ((hS_.block X (blk_lt HX1.out)).trans HX1.out) 0
    have hx_1 : w'.cell? ⟨X, 1, none⟩ = _ := blk_cell ((hS_.block X (blk_lt HX1.out)).trans HX1.out) 1
    go_simp
    with_reducible rfl
   rotate_left
   ·(try simp only [Act.put, List.setIfInBounds_toArray, List.set_cons_zero, List.set_cons_succ])
    rfl
   refine take_ (i := 3) (N := some 15) (v := ?_) (a' := ?_) NKb4 rfl rfl (take_ofW HT_.out HW_.out (by kernel_rfl)) (fun _ _ _ h => h) (Or.inl ⟨by rfl, ?_⟩) hHeld ?_ ?_
   rotate_left
   ·intro w' hS_
    have hx_ : w'.cell? ⟨C, 0, none⟩ = _ := blk_cell ((hS_.block C (blk_lt HC1.out)).trans HC1.out) 0
    go_simp
    with_reducible rfl
   rotate_left
   ·(try simp only [Act.put, List.setIfInBounds_toArray, List.set_cons_zero, List.set_cons_succ])
    rfl
   refine one_ (i := 4) (N := some 16) NKb5 rfl rfl (one_of HT_.out (by kernel_rfl)) (by decide) (fun K hK => ?_)
   refine goes_ Tryd.func34 (by kernel_rfl) rfl #[.agg #[.int .u64 nx, .slice A m c], .int .u64 ck] (by rfl) rfl rfl (by (try simp only [List.map_toArray, List.map_cons, List.map_nil]); first | done | rfl) ?_
   refine (HBY.out _ (Kd.C_below HCC1.out hHeld)).mono ?_
   rintro e w2 ⟨rfl, hb⟩
   refine ⟨_, rfl, ?_⟩
   have HN := hHeld.trans (hb.mono hHeld.size)
   clear hb
   clear hHeld
   refine hK.out _ _ (HN) (fun hHeld => ?_)
   clear hK K
   refine norm_ (a' := ?_) ?_ ?_
   rotate_left
   ·show Act.put _ (some 16) _ = _
    (try simp only [Act.put, List.setIfInBounds_toArray, List.set_cons_zero, List.set_cons_succ])
    rfl
   refine pure_ (i := 5) (N := some 11) (v := ?_) (a' := ?_) NKb6 rfl rfl (any_of HT_.out (by kernel_rfl)) (fun _ _ _ h => h) (Or.inl ⟨by rfl, ?_⟩) ?_ ?_
   rotate_left
   ·intro w'
    go_simp
    with_reducible rfl
   rotate_left
   ·(try simp only [Act.put, List.setIfInBounds_toArray, List.set_cons_zero, List.set_cons_succ])
    rfl
   refine pure_ (i := 6) (N := some 17) (v := ?_) (a' := ?_) NKb7 rfl rfl (any_of HT_.out (by kernel_rfl)) (fun _ _ _ h => h) (Or.inl ⟨by rfl, ?_⟩) ?_ ?_
   rotate_left
   ·intro w'
    go_simp
    with_reducible rfl
   rotate_left
   ·(try simp only [Act.put, List.setIfInBounds_toArray, List.set_cons_zero, List.set_cons_succ])
    rfl
   refine pure_ (i := 7) (N := some 18) (v := ?_) (a' := ?_) NKb8 rfl rfl (any_of HT_.out (by kernel_rfl)) (fun _ _ _ h => h) (Or.inl ⟨by rfl, ?_⟩) ?_ ?_
   rotate_left
   ·intro w'
    go_simp
    with_reducible rfl
   rotate_left
   ·(try simp only [Act.put, List.setIfInBounds_toArray, List.set_cons_zero, List.set_cons_succ])
    rfl
   refine pure_ (i := 8) (N := some 7) (v := ?_) (a' := ?_) NKb9 rfl rfl (any_of HT_.out (by kernel_rfl)) (fun _ _ _ h => h) (Or.inl ⟨by rfl, ?_⟩) ?_ ?_
   rotate_left
   ·intro w'
    go_simp
    with_reducible rfl
   rotate_left
   ·(try simp only [Act.put, List.setIfInBounds_toArray, List.set_cons_zero, List.set_cons_succ])
    rfl
   refine pure_ (i := 9) (N := some 8) (v := ?_) (a' := ?_) NKb10 rfl rfl (any_of HT_.out (by kernel_rfl)) (fun _ _ _ h => h) (Or.inl ⟨by rfl, ?_⟩) ?_ ?_
   rotate_left
   ·intro w'
    go_simp
    with_reducible rfl
   rotate_left
   ·(try simp only [Act.put, List.setIfInBounds_toArray, List.set_cons_zero, List.set_cons_succ])
    rfl
   refine done_ (done_of HT_.out (by kernel_rfl)) ?_
   clear HT_ HW_
   have HB2 := Lib.hid (HB1.out.trans (hHeld.mono HB1.out.size))
   clear hHeld
   have HD2 := Lib.hid (HD.out.below HB2.out)
   have HR2 := Lib.hid ((HB2.out.block _ (blk_lt HR.out)).trans HR.out)
   have r0 := blk_cell HR2.out 0
   have r1 := blk_cell HR2.out 1
   go_wp2_with (first | (go_at_call 35; (with_reducible refine (behind_w go ret _ (HT.out.below HB2.out)).mono ?_); rintro e w3 ⟨he, hb⟩; rw [HG1.out, HG2.out, HG3.out] at he; subst he; have HB3 := Lib.hid (HB2.out.trans (hb.mono HB2.out.size)); have HB4 := Lib.hid (bel_al HB3.out (.cells #[.int .i64 0, .bool false, .int .i64 0, .bool false, .int .u16 0, .bool false, .int .i64 0] 45)); clear hb r0 r1))
   go_ret
   exact ⟨by rw [HV.out]; rfl, fun h => absurd (HV.out.symm.trans h) (by decide), ⟨by rw [HV2.out]; exact (HB4.out.block _ (blk_lt HDD.out)).trans HDD.out, by rw [HV3.out, HV4.out]; exact (HB4.out.block _ (blk_lt HM4.out)).trans HM4.out⟩, Stay.below HB4.out hB⟩
 | true =>
  obtain ⟨hil, hic⟩ := hb1 rfl
  have hI : ansI l ck = i := idx_hit hil (by simpa using hic) (fun q hq => by have := hs q i hq hil; have h2 : ckOf l (i : Int) = ck := hic; rw [h2] at this; simpa using Int.ne_of_lt this)
  have hne : ¬ (i : Int) = -1 := by omega
  have HI := Lib.hid hI
  have HNE := Lib.hid hne
  have HIL := Lib.hid hil
  have him : i < m := by have := HM.out; omega
  have hm100 : m ≤ 100 := by have := HM.out; omega
  clear hb1 hb2 hs hok hI hne hic hil
  by_cases hrep : Rep go ret
  case neg =>
   have HV := Lib.hid (show ansE l ck go ret = 310 by unfold ansE; rw [HI.out, if_neg HNE.out, if_neg hrep])
   have HV2 := Lib.hid (show ansT l ck go ret = 0 by unfold ansT; rw [HV.out, if_neg (by decide)])
   have HV3 := Lib.hid (show ansG l ck go ret = false by unfold ansG; rw [HV.out]; rfl)
   have HV4 := Lib.hid (show ansV l ck go ret = 0 by unfold ansV; rw [HV.out, if_neg (by decide)])
   have HG1 := Lib.hid (show behRu go ret = false by unfold behRu; rw [decide_eq_false hrep, Bool.false_and])
   have HG2 := Lib.hid (show behRe go ret = 0 from if_neg hrep)
   have HG3 := Lib.hid (show behE go ret = 310 from if_neg hrep)
   clear hrep
   go_enter Tryd.func33, Tryd.ntmps33
   go_wp2_with fail
   refine start_ (n := 10) (S := fun w' => Below W.drew.heap.size W.drew w') (ds := []) NKb0 (by kernel_rfl) rfl rfl (Below.refl _ _) (fun hHeld => ?_); refine with_tabW an1.tab1 an1.bits1 (fun HT_ HW_ => ?_)
   generalize W.drew = w1 at HX1 HC1 HCC1 HB1 hHeld ⊢
   refine pure_ (i := 0) (N := some 12) (v := ?_) (a' := ?_) NKb1 rfl rfl (any_of HT_.out (by kernel_rfl)) (fun _ _ _ h => h) (Or.inl ⟨by rfl, ?_⟩) ?_ ?_
   rotate_left
   ·intro w'
    go_simp
    with_reducible rfl
   rotate_left
   ·(try simp only [Act.put, List.setIfInBounds_toArray, List.set_cons_zero, List.set_cons_succ])
    rfl
   refine pure_ (i := 1) (N := some 13) (v := ?_) (a' := ?_) NKb2 rfl rfl (any_of HT_.out (by kernel_rfl)) (fun _ _ _ h => h) (Or.inl ⟨by rfl, ?_⟩) ?_ ?_
   rotate_left
   ·intro w'
    go_simp
    with_reducible rfl
   rotate_left
   ·(try simp only [Act.put, List.setIfInBounds_toArray, List.set_cons_zero, List.set_cons_succ])
    rfl
   refine take_ (i := 2) (N := some 14) (v := ?_) (a' := ?_) NKb3 rfl rfl (take_ofW HT_.out HW_.out (by kernel_rfl)) (fun _ _ _ h => h) (Or.inl ⟨by rfl, ?_⟩) hHeld ?_ ?_
   rotate_left
   ·intro w' hS_
    have hx_0 : w'.cell? ⟨X, 0, none⟩ = _ := blk_cell ((hS_.block X (blk_lt HX1.out)).trans HX1.out) 0
    have hx_1 : w'.cell? ⟨X, 1, none⟩ = _ := blk_cell ((hS_.block X (blk_lt HX1.out)).trans HX1.out) 1
    go_simp
    with_reducible rfl
   rotate_left
   ·(try simp only [Act.put, List.setIfInBounds_toArray, List.set_cons_zero, List.set_cons_succ])
    rfl
   refine take_ (i := 3) (N := some 15) (v := ?_) (a' := ?_) NKb4 rfl rfl (take_ofW HT_.out HW_.out (by kernel_rfl)) (fun _ _ _ h => h) (Or.inl ⟨by rfl, ?_⟩) hHeld ?_ ?_
   rotate_left
   ·intro w' hS_
    have hx_ : w'.cell? ⟨C, 0, none⟩ = _ := blk_cell ((hS_.block C (blk_lt HC1.out)).trans HC1.out) 0
    go_simp
    with_reducible rfl
   rotate_left
   ·(try simp only [Act.put, List.setIfInBounds_toArray, List.set_cons_zero, List.set_cons_succ])
    rfl
   refine one_ (i := 4) (N := some 16) NKb5 rfl rfl (one_of HT_.out (by kernel_rfl)) (by decide) (fun K hK => ?_)
   refine goes_ Tryd.func34 (by kernel_rfl) rfl #[.agg #[.int .u64 nx, .slice A m c], .int .u64 ck] (by rfl) rfl rfl (by (try simp only [List.map_toArray, List.map_cons, List.map_nil]); first | done | rfl) ?_
   refine (HBY.out _ (Kd.C_below HCC1.out hHeld)).mono ?_
   rintro e w2 ⟨rfl, hb⟩
   refine ⟨_, rfl, ?_⟩
   have HN := hHeld.trans (hb.mono hHeld.size)
   clear hb
   clear hHeld
   refine hK.out _ _ (HN) (fun hHeld => ?_)
   clear hK K
   refine norm_ (a' := ?_) ?_ ?_
   rotate_left
   ·show Act.put _ (some 16) _ = _
    (try simp only [Act.put, List.setIfInBounds_toArray, List.set_cons_zero, List.set_cons_succ])
    rfl
   refine pure_ (i := 5) (N := some 11) (v := ?_) (a' := ?_) NKb6 rfl rfl (any_of HT_.out (by kernel_rfl)) (fun _ _ _ h => h) (Or.inl ⟨by rfl, ?_⟩) ?_ ?_
   rotate_left
   ·intro w'
    go_simp
    with_reducible rfl
   rotate_left
   ·(try simp only [Act.put, List.setIfInBounds_toArray, List.set_cons_zero, List.set_cons_succ])
    rfl
   refine pure_ (i := 6) (N := some 17) (v := ?_) (a' := ?_) NKb7 rfl rfl (any_of HT_.out (by kernel_rfl)) (fun _ _ _ h => h) (Or.inl ⟨by rfl, ?_⟩) ?_ ?_
   rotate_left
   ·intro w'
    go_simp
    with_reducible rfl
   rotate_left
   ·(try simp only [Act.put, List.setIfInBounds_toArray, List.set_cons_zero, List.set_cons_succ])
    rfl
   refine pure_ (i := 7) (N := some 18) (v := ?_) (a' := ?_) NKb8 rfl rfl (any_of HT_.out (by kernel_rfl)) (fun _ _ _ h => h) (Or.inl ⟨by rfl, ?_⟩) ?_ ?_
   rotate_left
   ·intro w'
    go_simp
    with_reducible rfl
   rotate_left
   ·(try simp only [Act.put, List.setIfInBounds_toArray, List.set_cons_zero, List.set_cons_succ])
    rfl
   refine pure_ (i := 8) (N := some 7) (v := ?_) (a' := ?_) NKb9 rfl rfl (any_of HT_.out (by kernel_rfl)) (fun _ _ _ h => h) (Or.inl ⟨by rfl, ?_⟩) ?_ ?_
   rotate_left
   ·intro w'
    go_simp
    with_reducible rfl
   rotate_left
   ·(try simp only [Act.put, List.setIfInBounds_toArray, List.set_cons_zero, List.set_cons_succ])
    rfl
   refine pure_ (i := 9) (N := some 8) (v := ?_) (a' := ?_) NKb10 rfl rfl (any_of HT_.out (by kernel_rfl)) (fun _ _ _ h => h) (Or.inl ⟨by rfl, ?_⟩) ?_ ?_
   rotate_left
   ·intro w'
    go_simp
    with_reducible rfl
   rotate_left
   ·(try simp only [Act.put, List.setIfInBounds_toArray, List.set_cons_zero, List.set_cons_succ])
    rfl
   refine done_ (done_of HT_.out (by kernel_rfl)) ?_
   clear HT_ HW_
   have HB2 := Lib.hid (HB1.out.trans (hHeld.mono HB1.out.size))
   clear hHeld
   have HD2 := Lib.hid (HD.out.below HB2.out)
   have HR2 := Lib.hid ((HB2.out.block _ (blk_lt HR.out)).trans HR.out)
   have r0 := blk_cell HR2.out 0
   have r1 := blk_cell HR2.out 1
   go_wp2_with (first | (go_at_call 35; (with_reducible refine (behind_w go ret _ (HT.out.below HB2.out)).mono ?_); rintro e w3 ⟨he, hb⟩; rw [HG1.out, HG2.out, HG3.out] at he; subst he; have HB3 := Lib.hid (HB2.out.trans (hb.mono HB2.out.size)); have HB4 := Lib.hid (bel_al HB3.out (.cells #[.int .i64 0, .bool false, .int .i64 0, .bool false, .int .u16 0, .bool false, .int .i64 0] 45)); clear hb r0 r1))
   go_ret
   exact ⟨by rw [HV.out]; rfl, fun h => absurd (HV.out.symm.trans h) (by decide), ⟨by rw [HV2.out]; exact (HB4.out.block _ (blk_lt HDD.out)).trans HDD.out, by rw [HV3.out, HV4.out]; exact (HB4.out.block _ (blk_lt HM4.out)).trans HM4.out⟩, Stay.below HB4.out hB⟩
  have hpos : 0 < l.length := by have := HIL.out; omega
  obtain ⟨g, cap, hv, hbg, hgs, _⟩ := Kd.R_form HD.out.2 hpos
  injection hv with hA hml hcap
  clear hml hpos
  subst hA hcap
  obtain ⟨x, hx⟩ : ∃ x, x = rd_T36 l (i : Int) := ⟨_, rfl⟩
  have HXX := Lib.hid hx
  clear hx
  have HG1 := Lib.hid (show behRu go ret = go by unfold behRu; rw [decide_eq_true hrep, Bool.true_and])
  have HG2 := Lib.hid (show behRe go ret = ret from if_pos hrep)
  have HG3 := Lib.hid (show behE go ret = 0 from if_pos hrep)
  have hi0 : (0 : Int) ≤ (i : Int) := by omega
  have hi1 : (i : Int) < (m : Int) := by omega
  cases htk : x.f3 with
  | false =>
   have HV := Lib.hid (show ansE l ck go ret = 2 by unfold ansE; rw [HI.out, if_neg HNE.out, if_pos hrep, ← HXX.out, htk]; rfl)
   have HV2 := Lib.hid (show ansT l ck go ret = 0 by unfold ansT; rw [HV.out, if_neg (by decide)])
   have HV3 := Lib.hid (show ansG l ck go ret = false by unfold ansG; rw [HV.out]; rfl)
   have HV4 := Lib.hid (show ansV l ck go ret = 0 by unfold ansV; rw [HV.out, if_neg (by decide)])
   clear hrep
   have HTK := Lib.hid htk
   clear htk
   go_enter Tryd.func33, Tryd.ntmps33
   go_wp2_with fail
   refine start_ (n := 10) (S := fun w' => Below W.drew.heap.size W.drew w') (ds := []) NKb0 (by kernel_rfl) rfl rfl (Below.refl _ _) (fun hHeld => ?_); refine with_tabW an1.tab1 an1.bits1 (fun HT_ HW_ => ?_)
   generalize W.drew = w1 at HX1 HC1 HCC1 HB1 hHeld ⊢
   refine pure_ (i := 0) (N := some 12) (v := ?_) (a' := ?_) NKb1 rfl rfl (any_of HT_.out (by kernel_rfl)) (fun _ _ _ h => h) (Or.inl ⟨by rfl, ?_⟩) ?_ ?_
   rotate_left
   ·intro w'
    go_simp
    with_reducible rfl
   rotate_left
   ·(try simp only [Act.put, List.setIfInBounds_toArray, List.set_cons_zero, List.set_cons_succ])
    rfl
   refine pure_ (i := 1) (N := some 13) (v := ?_) (a' := ?_) NKb2 rfl rfl (any_of HT_.out (by kernel_rfl)) (fun _ _ _ h => h) (Or.inl ⟨by rfl, ?_⟩) ?_ ?_
   rotate_left
   ·intro w'
    go_simp
    with_reducible rfl
   rotate_left
   ·(try simp only [Act.put, List.setIfInBounds_toArray, List.set_cons_zero, List.set_cons_succ])
    rfl
   refine take_ (i := 2) (N := some 14) (v := ?_) (a' := ?_) NKb3 rfl rfl (take_ofW HT_.out HW_.out (by kernel_rfl)) (fun _ _ _ h => h) (Or.inl ⟨by rfl, ?_⟩) hHeld ?_ ?_
   rotate_left
   ·intro w' hS_
    have hx_0 : w'.cell? ⟨X, 0, none⟩ = _ := blk_cell ((hS_.block X (blk_lt HX1.out)).trans HX1.out) 0
    have hx_1 : w'.cell? ⟨X, 1, none⟩ = _ := blk_cell ((hS_.block X (blk_lt HX1.out)).trans HX1.out) 1
    go_simp
    with_reducible rfl
   rotate_left
   ·(try simp only [Act.put, List.setIfInBounds_toArray, List.set_cons_zero, List.set_cons_succ])
    rfl
   refine take_ (i := 3) (N := some 15) (v := ?_) (a' := ?_) NKb4 rfl rfl (take_ofW HT_.out HW_.out (by kernel_rfl)) (fun _ _ _ h => h) (Or.inl ⟨by rfl, ?_⟩) hHeld ?_ ?_
   rotate_left
   ·intro w' hS_
    have hx_ : w'.cell? ⟨C, 0, none⟩ = _ := blk_cell ((hS_.block C (blk_lt HC1.out)).trans HC1.out) 0
    go_simp
    with_reducible rfl
   rotate_left
   ·(try simp only [Act.put, List.setIfInBounds_toArray, List.set_cons_zero, List.set_cons_succ])
    rfl
   refine one_ (i := 4) (N := some 16) NKb5 rfl rfl (one_of HT_.out (by kernel_rfl)) (by decide) (fun K hK => ?_)
   refine goes_ Tryd.func34 (by kernel_rfl) rfl #[.agg #[.int .u64 nx, .slice (some ⟨g, 0, none⟩) m c], .int .u64 ck] (by rfl) rfl rfl (by (try simp only [List.map_toArray, List.map_cons, List.map_nil]); first | done | rfl) ?_
   refine (HBY.out _ (Kd.C_below HCC1.out hHeld)).mono ?_
   rintro e w2 ⟨rfl, hb⟩
   refine ⟨_, rfl, ?_⟩
   have HN := hHeld.trans (hb.mono hHeld.size)
   clear hb
   clear hHeld
   refine hK.out _ _ (HN) (fun hHeld => ?_)
   clear hK K
   refine norm_ (a' := ?_) ?_ ?_
   rotate_left
   ·show Act.put _ (some 16) _ = _
    (try simp only [Act.put, List.setIfInBounds_toArray, List.set_cons_zero, List.set_cons_succ])
    rfl
   refine pure_ (i := 5) (N := some 11) (v := ?_) (a' := ?_) NKb6 rfl rfl (any_of HT_.out (by kernel_rfl)) (fun _ _ _ h => h) (Or.inl ⟨by rfl, ?_⟩) ?_ ?_
   rotate_left
   ·intro w'
    go_simp
    with_reducible rfl
   rotate_left
   ·(try simp only [Act.put, List.setIfInBounds_toArray, List.set_cons_zero, List.set_cons_succ])
    rfl
   refine pure_ (i := 6) (N := some 17) (v := ?_) (a' := ?_) NKb7 rfl rfl (any_of HT_.out (by kernel_rfl)) (fun _ _ _ h => h) (Or.inl ⟨by rfl, ?_⟩) ?_ ?_
   rotate_left
   ·intro w'
    go_simp
    with_reducible rfl
   rotate_left
   ·(try simp only [Act.put, List.setIfInBounds_toArray, List.set_cons_zero, List.set_cons_succ])
    rfl
   refine pure_ (i := 7) (N := some 18) (v := ?_) (a' := ?_) NKb8 rfl rfl (any_of HT_.out (by kernel_rfl)) (fun _ _ _ h => h) (Or.inl ⟨by rfl, ?_⟩) ?_ ?_
   rotate_left
   ·intro w'
    go_simp
    with_reducible rfl
   rotate_left
   ·(try simp only [Act.put, List.setIfInBounds_toArray, List.set_cons_zero, List.set_cons_succ])
    rfl
   refine pure_ (i := 8) (N := some 7) (v := ?_) (a' := ?_) NKb9 rfl rfl (any_of HT_.out (by kernel_rfl)) (fun _ _ _ h => h) (Or.inl ⟨by rfl, ?_⟩) ?_ ?_
   rotate_left
   ·intro w'
    go_simp
    with_reducible rfl
   rotate_left
   ·(try simp only [Act.put, List.setIfInBounds_toArray, List.set_cons_zero, List.set_cons_succ])
    rfl
   refine pure_ (i := 9) (N := some 8) (v := ?_) (a' := ?_) NKb10 rfl rfl (any_of HT_.out (by kernel_rfl)) (fun _ _ _ h => h) (Or.inl ⟨by rfl, ?_⟩) ?_ ?_
   rotate_left
   ·intro w'
    go_simp
    with_reducible rfl
   rotate_left
   ·(try simp only [Act.put, List.setIfInBounds_toArray, List.set_cons_zero, List.set_cons_succ])
    rfl
   refine done_ (done_of HT_.out (by kernel_rfl)) ?_
   clear HT_ HW_
   have HB2 := Lib.hid (HB1.out.trans (hHeld.mono HB1.out.size))
   clear hHeld
   have HD2 := Lib.hid (HD.out.below HB2.out)
   have HR2 := Lib.hid ((HB2.out.block _ (blk_lt HR.out)).trans HR.out)
   have r0 := blk_cell HR2.out 0
   have r1 := blk_cell HR2.out 1
   go_wp2_with (first | (go_at_call 35; (with_reducible refine (behind_w go ret _ (HT.out.below HB2.out)).mono ?_); rintro e w3 ⟨he, hb⟩; rw [HG1.out, HG2.out, HG3.out] at he; subst he; have HB3 := Lib.hid (HB2.out.trans (hb.mono HB2.out.size)); have HB4 := Lib.hid (bel_al HB3.out (.cells #[.int .i64 0, .bool go, .int .i64 ret, .bool false, .int .u16 0, .bool false, .int .i64 0] 45)); clear hb r0 r1; have HD4 := Lib.hid (HD.out.below HB4.out); have hel := elem HD4.out.2 HIL.out; rw [← HXX.out, HTK.out] at hel; obtain ⟨_, _, _, _, _, _, _, _, _, _, _, e11, _⟩ := hel; have y1 := blk_cell HD4.out.1 1))
   go_ret
   exact ⟨by rw [HV.out]; rfl, fun h => absurd (HV.out.symm.trans h) (by decide), ⟨by rw [HV2.out]; exact (HB4.out.block _ (blk_lt HDD.out)).trans HDD.out, by rw [HV3.out, HV4.out]; exact (HB4.out.block _ (blk_lt HM4.out)).trans HM4.out⟩, Stay.below HB4.out hB⟩
  | true =>
   have HV := Lib.hid (show ansE l ck go ret = 0 by unfold ansE; rw [HI.out, if_neg HNE.out, if_pos hrep, ← HXX.out, htk]; rfl)
   have HV2 := Lib.hid (show ansT l ck go ret = x.f1 by unfold ansT; rw [HV.out, if_pos rfl, HI.out, HXX.out])
   have HV3 := Lib.hid (show ansG l ck go ret = go by unfold ansG; rw [HV.out]; rfl)
   have HV4 := Lib.hid (show ansV l ck go ret = ret by unfold ansV; rw [HV.out, if_pos rfl])
   have HL := Lib.hid (show ansL l ck = cut l i by unfold ansL; rw [HI.out]; simp)
   clear hrep
   have HTK := Lib.hid htk
   clear htk
   obtain ⟨j, hj⟩ : ∃ j, j = i + 1 := ⟨_, rfl⟩
   have hwj : wrap64 ((i : Int) + 1) = (j : Int) := by rw [hj]; exact w_succ i (by omega)
   have hij : i < j := by rw [hj]; exact Nat.lt_succ_self i
   have hjm : j ≤ m := by rw [hj]; exact him
   clear hm100
   have HJ := Lib.hid hj
   clear hj
   go_enter Tryd.func33, Tryd.ntmps33
   go_wp2_with fail
   refine start_ (n := 10) (S := fun w' => Below W.drew.heap.size W.drew w') (ds := []) NKb0 (by kernel_rfl) rfl rfl (Below.refl _ _) (fun hHeld => ?_); refine with_tabW an1.tab1 an1.bits1 (fun HT_ HW_ => ?_)
   generalize W.drew = w1 at HX1 HC1 HCC1 HB1 hHeld ⊢
   refine pure_ (i := 0) (N := some 12) (v := ?_) (a' := ?_) NKb1 rfl rfl (any_of HT_.out (by kernel_rfl)) (fun _ _ _ h => h) (Or.inl ⟨by rfl, ?_⟩) ?_ ?_
   rotate_left
   ·intro w'
    go_simp
    with_reducible rfl
   rotate_left
   ·(try simp only [Act.put, List.setIfInBounds_toArray, List.set_cons_zero, List.set_cons_succ])
    rfl
   refine pure_ (i := 1) (N := some 13) (v := ?_) (a' := ?_) NKb2 rfl rfl (any_of HT_.out (by kernel_rfl)) (fun _ _ _ h => h) (Or.inl ⟨by rfl, ?_⟩) ?_ ?_
   rotate_left
   ·intro w'
    go_simp
    with_reducible rfl
   rotate_left
   ·(try simp only [Act.put, List.setIfInBounds_toArray, List.set_cons_zero, List.set_cons_succ])
    rfl
   refine take_ (i := 2) (N := some 14) (v := ?_) (a' := ?_) NKb3 rfl rfl (take_ofW HT_.out HW_.out (by kernel_rfl)) (fun _ _ _ h => h) (Or.inl ⟨by rfl, ?_⟩) hHeld ?_ ?_
   rotate_left
   ·intro w' hS_
    have hx_0 : w'.cell? ⟨X, 0, none⟩ = _ := blk_cell ((hS_.block X (blk_lt HX1.out)).trans HX1.out) 0
    have hx_1 : w'.cell? ⟨X, 1, none⟩ = _ := blk_cell ((hS_.block X (blk_lt HX1.out)).trans HX1.out) 1
    go_simp
    with_reducible rfl
   rotate_left
   ·(try simp only [Act.put, List.setIfInBounds_toArray, List.set_cons_zero, List.set_cons_succ])
    rfl
   refine take_ (i := 3) (N := some 15) (v := ?_) (a' := ?_) NKb4 rfl rfl (take_ofW HT_.out HW_.out (by kernel_rfl)) (fun _ _ _ h => h) (Or.inl ⟨by rfl, ?_⟩) hHeld ?_ ?_
   rotate_left
   ·intro w' hS_
    have hx_ : w'.cell? ⟨C, 0, none⟩ = _ := blk_cell ((hS_.block C (blk_lt HC1.out)).trans HC1.out) 0
    go_simp
    with_reducible rfl
   rotate_left
   ·(try simp only [Act.put, List.setIfInBounds_toArray, List.set_cons_zero, List.set_cons_succ])
    rfl
   refine one_ (i := 4) (N := some 16) NKb5 rfl rfl (one_of HT_.out (by kernel_rfl)) (by decide) (fun K hK => ?_)
   refine goes_ Tryd.func34 (by kernel_rfl) rfl #[.agg #[.int .u64 nx, .slice (some ⟨g, 0, none⟩) m c], .int .u64 ck] (by rfl) rfl rfl (by (try simp only [List.map_toArray, List.map_cons, List.map_nil]); first | done | rfl) ?_
   refine (HBY.out _ (Kd.C_below HCC1.out hHeld)).mono ?_
   rintro e w2 ⟨rfl, hb⟩
   refine ⟨_, rfl, ?_⟩
   have HN := hHeld.trans (hb.mono hHeld.size)
   clear hb
   clear hHeld
   refine hK.out _ _ (HN) (fun hHeld => ?_)
   clear hK K
   refine norm_ (a' := ?_) ?_ ?_
   rotate_left
   ·show Act.put _ (some 16) _ = _
    (try simp only [Act.put, List.setIfInBounds_toArray, List.set_cons_zero, List.set_cons_succ])
    rfl
   refine pure_ (i := 5) (N := some 11) (v := ?_) (a' := ?_) NKb6 rfl rfl (any_of HT_.out (by kernel_rfl)) (fun _ _ _ h => h) (Or.inl ⟨by rfl, ?_⟩) ?_ ?_
   rotate_left
   ·intro w'
    go_simp
    with_reducible rfl
   rotate_left
   ·(try simp only [Act.put, List.setIfInBounds_toArray, List.set_cons_zero, List.set_cons_succ])
    rfl
   refine pure_ (i := 6) (N := some 17) (v := ?_) (a' := ?_) NKb7 rfl rfl (any_of HT_.out (by kernel_rfl)) (fun _ _ _ h => h) (Or.inl ⟨by rfl, ?_⟩) ?_ ?_
   rotate_left
   ·intro w'
    go_simp
    with_reducible rfl
   rotate_left
   ·(try simp only [Act.put, List.setIfInBounds_toArray, List.set_cons_zero, List.set_cons_succ])
    rfl
   refine pure_ (i := 7) (N := some 18) (v := ?_) (a' := ?_) NKb8 rfl rfl (any_of HT_.out (by kernel_rfl)) (fun _ _ _ h => h) (Or.inl ⟨by rfl, ?_⟩) ?_ ?_
   rotate_left
   ·intro w'
    go_simp
    with_reducible rfl
   rotate_left
   ·(try simp only [Act.put, List.setIfInBounds_toArray, List.set_cons_zero, List.set_cons_succ])
    rfl
   refine pure_ (i := 8) (N := some 7) (v := ?_) (a' := ?_) NKb9 rfl rfl (any_of HT_.out (by kernel_rfl)) (fun _ _ _ h => h) (Or.inl ⟨by rfl, ?_⟩) ?_ ?_
   rotate_left
   ·intro w'
    go_simp
    with_reducible rfl
   rotate_left
   ·(try simp only [Act.put, List.setIfInBounds_toArray, List.set_cons_zero, List.set_cons_succ])
    rfl
   refine pure_ (i := 9) (N := some 8) (v := ?_) (a' := ?_) NKb10 rfl rfl (any_of HT_.out (by kernel_rfl)) (fun _ _ _ h => h) (Or.inl ⟨by rfl, ?_⟩) ?_ ?_
   rotate_left
   ·intro w'
    go_simp
    with_reducible rfl
   rotate_left
   ·(try simp only [Act.put, List.setIfInBounds_toArray, List.set_cons_zero, List.set_cons_succ])
    rfl
   refine done_ (done_of HT_.out (by kernel_rfl)) ?_
   clear HT_ HW_
   have HB2 := Lib.hid (HB1.out.trans (hHeld.mono HB1.out.size))
   clear hHeld
   have HD2 := Lib.hid (HD.out.below HB2.out)
   have HR2 := Lib.hid ((HB2.out.block _ (blk_lt HR.out)).trans HR.out)
   have r0 := blk_cell HR2.out 0
   have r1 := blk_cell HR2.out 1
   go_wp2_with (first | (go_at_call 35; (with_reducible refine (behind_w go ret _ (HT.out.below HB2.out)).mono ?_); rintro e w3 ⟨he, hb⟩; rw [HG1.out, HG2.out, HG3.out] at he; subst he; have HB3 := Lib.hid (HB2.out.trans (hb.mono HB2.out.size)); have HB4 := Lib.hid (bel_al HB3.out (.cells #[.int .i64 0, .bool go, .int .i64 ret, .bool false, .int .u16 0, .bool false, .int .i64 0] 45)); clear hb r0 r1; have HD4 := Lib.hid (HD.out.below HB4.out); have hel := elem HD4.out.2 HIL.out; rw [← HXX.out, HTK.out] at hel; obtain ⟨_, e1, _, _, _, _, _, _, _, _, _, e11, _⟩ := hel; have HE1 := Lib.hid e1; clear e1; have y1 := blk_cell HD4.out.1 1; have HYB := Lib.hid (al_new w3 (.cells #[.int .i64 0, .bool go, .int .i64 ret, .bool false, .int .u16 0, .bool false, .int .i64 0] 45))))
   clear e11 y1
   have HX5 := Lib.hid (blk_drew HD4.out.1)
   have HY5 := Lib.hid (blk_drew HYB.out)
   have HEL : Hid (World.cell? (w3.alloc (.cells #[.int .i64 0, .bool go, .int .i64 ret, .bool false, .int .u16 0, .bool false, .int .i64 0] 45)).drew ⟨g, i * 12 + 1, none⟩ = some (.int .i64 x.f1)) := HE1.out
   have HD5 := Lib.hid (blk_drew ((HB4.out.block _ (blk_lt HDD.out)).trans HDD.out))
   have HM5 := Lib.hid (blk_drew ((HB4.out.block _ (blk_lt HM4.out)).trans HM4.out))
   have HR5 := Lib.hid (Kd.R_drew HD4.out.2)
   have HB5 := Lib.hid (below_drew HB4.out)
   have hs3 : B ≤ w3.heap.size := Nat.le_trans hB HB3.out.size
   have hgD : g ≠ D := Ne.symm (Nat.ne_of_lt (Nat.lt_of_lt_of_le hDB hbg))
   have hgM : g ≠ M := Ne.symm (Nat.ne_of_lt (Nat.lt_of_lt_of_le hMB hbg))
   have hYD : w3.heap.size ≠ D := Ne.symm (Nat.ne_of_lt (Nat.lt_of_lt_of_le hDB hs3))
   have hYM : w3.heap.size ≠ M := Ne.symm (Nat.ne_of_lt (Nat.lt_of_lt_of_le hMB hs3))
   have hMD := HMD.out
   have hDM := Ne.symm HMD.out
   refine start_ (n := 11) (S := fun w' => ∀ q, q ≠ D → q ≠ M → w'.heap[q]? = (w3.alloc (.cells #[.int .i64 0, .bool go, .int .i64 ret, .bool false, .int .u16 0, .bool false, .int .i64 0] 45)).drew.heap[q]?) (ds := [10]) #[false, false, false, false, false, false, false, false, false, false, false] (by kernel_rfl) rfl rfl (fun _ _ _ => rfl) (fun hHeld => ?_); refine with_tabW an9.tab9 an9.bits9 (fun HT_ HW_ => ?_)
   generalize (w3.alloc (.cells #[.int .i64 0, .bool go, .int .i64 ret, .bool false, .int .u16 0, .bool false, .int .i64 0] 45)).drew = w5 at HX5 HY5 HEL HD5 HM5 HR5 HB5 hHeld ⊢
   have dc := blk_cell HD5.out 0
   have df := blk_frozen HD5.out 0
   have dl := blk_lt HD5.out
   have ml := blk_lt HM5.out
   have mc0 := blk_cell HM5.out 0
   have mf0 := blk_frozen HM5.out 0
   have mc1 := blk_cell HM5.out 1
   have mf1 := blk_frozen HM5.out 1
   have mc2 := blk_cell HM5.out 2
   have mf2 := blk_frozen HM5.out 2
   have mc3 := blk_cell HM5.out 3
   have mf3 := blk_frozen HM5.out 3
   have mc4 := blk_cell HM5.out 4
   have mf4 := blk_frozen HM5.out 4
   have mc5 := blk_cell HM5.out 5
   have mf5 := blk_frozen HM5.out 5
   have mc6 := blk_cell HM5.out 6
   have mf6 := blk_frozen HM5.out 6
   refine pure_ (i := 0) (N := some 42) (v := ?_) (a' := ?_) #[true, false, false, false, false, false, false, false, false, false, false] rfl rfl (any_of HT_.out (by kernel_rfl)) (fun _ _ _ h => h) (Or.inl ⟨by rfl, ?_⟩) ?_ ?_
   rotate_left
   ·intro w'
    go_simp
    with_reducible rfl
   rotate_left
   ·(try simp only [Act.put, List.setIfInBounds_toArray, List.set_cons_zero, List.set_cons_succ])
    rfl
   refine pure_ (i := 1) (N := some 43) (v := ?_) (a' := ?_) #[true, true, false, false, false, false, false, false, false, false, false] rfl rfl (any_of HT_.out (by kernel_rfl)) (fun _ _ _ h => h) (Or.inl ⟨by rfl, ?_⟩) ?_ ?_
   rotate_left
   ·intro w'
    go_simp
    with_reducible rfl
   rotate_left
   ·(try simp only [Act.put, List.setIfInBounds_toArray, List.set_cons_zero, List.set_cons_succ])
    rfl
   refine pure_ (i := 2) (N := some 44) (v := ?_) (a' := ?_) #[true, true, true, false, false, false, false, false, false, false, false] rfl rfl (any_of HT_.out (by kernel_rfl)) (fun _ _ _ h => h) (Or.inl ⟨by rfl, ?_⟩) ?_ ?_
   rotate_left
   ·intro w'
    go_simp
    with_reducible rfl
   rotate_left
   ·(try simp only [Act.put, List.setIfInBounds_toArray, List.set_cons_zero, List.set_cons_succ])
    rfl
   refine pure_ (i := 4) (N := some 46) (v := ?_) (a' := ?_) #[true, true, true, false, true, false, false, false, false, false, false] rfl rfl (any_of HT_.out (by kernel_rfl)) (fun _ _ _ h => h) (Or.inl ⟨by rfl, ?_⟩) ?_ ?_
   rotate_left
   ·intro w'
    go_simp
    with_reducible rfl
   rotate_left
   ·(try simp only [Act.put, List.setIfInBounds_toArray, List.set_cons_zero, List.set_cons_succ])
    rfl
   refine take_ (i := 3) (N := some 45) (v := ?_) (a' := ?_) #[true, true, true, true, true, false, false, false, false, false, false] rfl rfl (take_ofW HT_.out HW_.out (by kernel_rfl)) (fun _ _ _ h => h) (Or.inl ⟨by rfl, ?_⟩) hHeld ?_ ?_
   rotate_left
   ·intro w' hS_
    have hx_ : w'.cell? ⟨X, 1, none⟩ = _ := blk_cell ((hS_ X (Ne.symm HDX.out) (Ne.symm HMX.out)).trans HX5.out) 1
    go_simp
    with_reducible rfl
   rotate_left
   ·(try simp only [Act.put, List.setIfInBounds_toArray, List.set_cons_zero, List.set_cons_succ])
    rfl
   refine pure_ (i := 5) (N := some 47) (v := ?_) (a' := ?_) #[true, true, true, true, true, true, false, false, false, false, false] rfl rfl (any_of HT_.out (by kernel_rfl)) (fun _ _ _ h => h) (Or.inl ⟨by rfl, ?_⟩) ?_ ?_
   rotate_left
   ·intro w'
    go_simp
    with_reducible rfl
   rotate_left
   ·(try simp only [Act.put, List.setIfInBounds_toArray, List.set_cons_zero, List.set_cons_succ])
    rfl
   refine pure_ (i := 6) (N := some 48) (v := ?_) (a' := ?_) #[true, true, true, true, true, true, true, false, false, false, false] rfl rfl (any_of HT_.out (by kernel_rfl)) (fun _ _ _ h => h) (Or.inl ⟨by rfl, ?_⟩) ?_ ?_
   rotate_left
   ·intro w'
    go_simp
    with_reducible rfl
   rotate_left
   ·(try simp only [Act.put, List.setIfInBounds_toArray, List.set_cons_zero, List.set_cons_succ])
    rfl
   refine take_ (i := 7) (N := some 49) (v := ?_) (a' := ?_) #[true, true, true, true, true, true, true, true, false, false, false] rfl rfl (take_ofW HT_.out HW_.out (by kernel_rfl)) (fun _ _ _ h => h) (Or.inl ⟨by rfl, ?_⟩) hHeld ?_ ?_
   rotate_left
   ·intro w' hS_
    have hx_ : w'.cell? ⟨g, i * 12 + 1, none⟩ = some (.int .i64 x.f1) := by unfold World.cell?; rw [hS_ g hgD hgM]; exact HEL.out
    go_simp
    with_reducible rfl
   rotate_left
   ·(try simp only [Act.put, List.setIfInBounds_toArray, List.set_cons_zero, List.set_cons_succ])
    rfl
   refine take_ (i := 8) (N := some 50) (v := ?_) (a' := ?_) #[true, true, true, true, true, true, true, true, true, false, false] rfl rfl (take_ofW HT_.out HW_.out (by kernel_rfl)) (fun _ _ _ h => h) (Or.inl ⟨by rfl, ?_⟩) hHeld ?_ ?_
   rotate_left
   ·intro w' hS_
    have hx_0 : w'.cell? ⟨w3.heap.size, 0, none⟩ = _ := blk_cell ((hS_ _ hYD hYM).trans HY5.out) 0
    have hx_1 : w'.cell? ⟨w3.heap.size, 1, none⟩ = _ := blk_cell ((hS_ _ hYD hYM).trans HY5.out) 1
    have hx_2 : w'.cell? ⟨w3.heap.size, 2, none⟩ = _ := blk_cell ((hS_ _ hYD hYM).trans HY5.out) 2
    have hx_3 : w'.cell? ⟨w3.heap.size, 3, none⟩ = _ := blk_cell ((hS_ _ hYD hYM).trans HY5.out) 3
    have hx_4 : w'.cell? ⟨w3.heap.size, 4, none⟩ = _ := blk_cell ((hS_ _ hYD hYM).trans HY5.out) 4
    have hx_5 : w'.cell? ⟨w3.heap.size, 5, none⟩ = _ := blk_cell ((hS_ _ hYD hYM).trans HY5.out) 5
    have hx_6 : w'.cell? ⟨w3.heap.size, 6, none⟩ = _ := blk_cell ((hS_ _ hYD hYM).trans HY5.out) 6
    go_simp
    with_reducible rfl
   rotate_left
   ·(try simp only [Act.put, List.setIfInBounds_toArray, List.set_cons_zero, List.set_cons_succ])
    rfl
   refine one_ (i := 9) (N := none) #[true, true, true, true, true, true, true, true, true, true, false] rfl rfl (one_of HT_.out (by kernel_rfl)) (by decide) (fun K hK => ?_)
   refine skip_ (w1 := ?_) (by rfl) rfl ?_ ?_
   rotate_left
   ·go_simp
    with_reducible rfl
   refine hK.out _ _ (fun q h1 h2 => Below.heap_setCell _ _ _ _ h1) (fun hHeld => ?_)
   clear hK K
   refine last_ (i := 10) (N := none) #[true, true, true, true, true, true, true, true, true, true, true] rfl rfl (one_of HT_.out (by kernel_rfl)) (by decide) (fun K hK => ?_)
   refine skip_ (w1 := ?_) (by rfl) rfl ?_ ?_
   rotate_left
   ·go_simp
    with_reducible rfl
   refine hK.out _ _ ?_
   clear hK K
   refine done_ (done_of HT_.out (by kernel_rfl)) ?_
   clear HT_ HW_
   clear hHeld
   have HX9 := Lib.hid (show ((((((((w5.setCell ⟨D, 0, none⟩ (.int .i64 x.f1)).setCell ⟨M, 0, none⟩ (.int .i64 0)).setCell ⟨M, 1, none⟩ (.bool go)).setCell ⟨M, 2, none⟩ (.int .i64 ret)).setCell ⟨M, 3, none⟩ (.bool false)).setCell ⟨M, 4, none⟩ (.int .u16 0)).setCell ⟨M, 5, none⟩ (.bool false)).setCell ⟨M, 6, none⟩ (.int .i64 0)).heap[X]? = some (deskC nx (.slice (some ⟨g, 0, none⟩) m c)) from far7 (blk_far HX5.out (Ne.symm HDX.out) _) (Ne.symm HMX.out) _ _ _ _ _ _ _)
   have HD9 := Lib.hid (show ((((((((w5.setCell ⟨D, 0, none⟩ (.int .i64 x.f1)).setCell ⟨M, 0, none⟩ (.int .i64 0)).setCell ⟨M, 1, none⟩ (.bool go)).setCell ⟨M, 2, none⟩ (.int .i64 ret)).setCell ⟨M, 3, none⟩ (.bool false)).setCell ⟨M, 4, none⟩ (.int .u16 0)).setCell ⟨M, 5, none⟩ (.bool false)).setCell ⟨M, 6, none⟩ (.int .i64 0)).heap[D]? = some (.cells #[.int .i64 x.f1] 3 (0, 0)) from far7 (blk_put HD5.out 0 _ rfl) hDM _ _ _ _ _ _ _)
   have HM9 := Lib.hid (show ((((((((w5.setCell ⟨D, 0, none⟩ (.int .i64 x.f1)).setCell ⟨M, 0, none⟩ (.int .i64 0)).setCell ⟨M, 1, none⟩ (.bool go)).setCell ⟨M, 2, none⟩ (.int .i64 ret)).setCell ⟨M, 3, none⟩ (.bool false)).setCell ⟨M, 4, none⟩ (.int .u16 0)).setCell ⟨M, 5, none⟩ (.bool false)).setCell ⟨M, 6, none⟩ (.int .i64 0)).heap[M]? = some (.cells #[.int .i64 0, .bool go, .int .i64 ret, .bool false, .int .u16 0, .bool false, .int .i64 0] 45 (0, 0)) from put7 (blk_far HM5.out hMD _) _ _ _ _ _ _ _)
   have HR9 := Lib.hid (show Kd.R k36 36 ((((((((w5.setCell ⟨D, 0, none⟩ (.int .i64 x.f1)).setCell ⟨M, 0, none⟩ (.int .i64 0)).setCell ⟨M, 1, none⟩ (.bool go)).setCell ⟨M, 2, none⟩ (.int .i64 ret)).setCell ⟨M, 3, none⟩ (.bool false)).setCell ⟨M, 4, none⟩ (.int .u16 0)).setCell ⟨M, 5, none⟩ (.bool false)).setCell ⟨M, 6, none⟩ (.int .i64 0)) B (fun k => B ≤ k) (.slice (some ⟨g, 0, none⟩) m c) l from R_far7 (Kd.R_far HR5.out (fun q hq e => absurd (Nat.lt_of_lt_of_le hDB hq) (by rw [e]; exact Nat.lt_irrefl _)) _) (fun q hq e => absurd (Nat.lt_of_lt_of_le hMB hq) (by rw [e]; exact Nat.lt_irrefl _)) _ _ _ _ _ _ _)
   have HS9 := Lib.hid (show Stay (fun q => q = X ∨ q = D ∨ q = M) B W ((((((((w5.setCell ⟨D, 0, none⟩ (.int .i64 x.f1)).setCell ⟨M, 0, none⟩ (.int .i64 0)).setCell ⟨M, 1, none⟩ (.bool go)).setCell ⟨M, 2, none⟩ (.int .i64 ret)).setCell ⟨M, 3, none⟩ (.bool false)).setCell ⟨M, 4, none⟩ (.int .u16 0)).setCell ⟨M, 5, none⟩ (.bool false)).setCell ⟨M, 6, none⟩ (.int .i64 0)) from stay7 ((Stay.below HB5.out hB).set _ _ (fun _ => Or.inr (Or.inl rfl))) (Or.inr (Or.inr rfl)) _ _ _ _ _ _ _)
   clear dc df dl ml mc0 mf0 mc1 mf1 mc2 mf2 mc3 mf3 mc4 mf4 mc5 mf5 mc6 mf6
   generalize ((((((((w5.setCell ⟨D, 0, none⟩ (.int .i64 x.f1)).setCell ⟨M, 0, none⟩ (.int .i64 0)).setCell ⟨M, 1, none⟩ (.bool go)).setCell ⟨M, 2, none⟩ (.int .i64 ret)).setCell ⟨M, 3, none⟩ (.bool false)).setCell ⟨M, 4, none⟩ (.int .u16 0)).setCell ⟨M, 5, none⟩ (.bool false)).setCell ⟨M, 6, none⟩ (.int .i64 0)) = w9 at HX9 HD9 HM9 HR9 HS9 ⊢
   have y1 := blk_cell HX9.out 1
   go_wp2_with (first | (go_at_call 36; (with_reducible refine (delete_w g c m i j l hij HJ.out hjm B _ _ HR9.out).mono ?_); rintro e w10 ⟨rfl, hR10, hb10⟩; have HX10 := Lib.hid ((hb10.block X (Nat.ne_of_lt (Nat.lt_of_lt_of_le hXB hbg))).trans HX9.out); have HD10 := Lib.hid ((hb10.block D (Ne.symm hgD)).trans HD9.out); have HM10 := Lib.hid ((hb10.block M (Ne.symm hgM)).trans HM9.out); have HS10 := Lib.hid (HS9.out.but hb10 hbg); have HR10 := Lib.hid hR10; clear hR10 hb10 y1; have z1 := blk_cell HX10.out 1; have zf1 := blk_frozen HX10.out 1; have zl := blk_lt HX10.out))
   go_ret
   have hcut : cut l i = l.take i ++ l.drop j := by rw [HJ.out]; rfl
   refine ⟨by rw [HV.out]; rfl, fun _ => ⟨.slice (some ⟨g, 0, none⟩) (m - 1) c, blk_put HX10.out 1 _ rfl, ?_⟩, ⟨by rw [HV2.out]; exact blk_far HD10.out HDX.out _, by rw [HV3.out, HV4.out]; exact blk_far HM10.out HMX.out _⟩, HS10.out.set _ _ (fun _ => Or.inl rfl)⟩
   rw [HL.out, hcut]
   exact Kd.R_far HR10.out (fun q hq e => absurd (Nat.lt_of_lt_of_le hXB hq) (by rw [e]; exact Nat.lt_irrefl _)) _

end Go.Proofs.YtcbiehinhmkjmaaDoor.NB
