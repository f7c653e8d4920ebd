import Derived.Test.YtpejeeemefmafaaOP
import Derived.WalkSpells
namespace Go.Proofs.Ytpejeeemefmafaa.RD
open Go.RowKit Go.Proofs.YtpejeeemefmafaaW.PrintWords Go.Proofs.YtpejeeemefmafaaW.PrintLast Go.Proofs.YtpejeeemefmafaaW.PrintMore
open Go.Proofs.Ytpejeeemefmafaa.PE.L (below_drewN' below_drew')
open PH
set_option linter.unusedVariables false
set_option linter.unusedSimpArgs false
theorem step_below {w W W' : World} (h : Below w.heap.size w W) (h' : Below W.heap.size W W') : Below w.heap.size w W' := h.trans (h'.mono h.size)
theorem oct_nil : Oct [] := fun j => by simp [g]
theorem nb_all (l : List Int) : nb l 0 0 l.length = l := by unfold nb; rw [if_pos ⟨rfl, by omega, by simp⟩]; simp
theorem sum64 (x y : Int) (x0 : 0 ≤ x) (x1 : x < 18446744073709551616) (y0 : 0 ≤ y) (y1 : y < 18446744073709551616) : num (nb (sumv (bs 8 x) (bs 8 y) 0 0 8) 0 0 8) = IntKind.u64.wrap (x + y) := by
  have h := nb_all (sumv (bs 8 x) (bs 8 y) 0 0 8)
  rw [sumv_length] at h
  rw [show ((8 : Nat) : Int) = 8 from rfl] at h
  rw [h, num_sumv _ _ (bs_bytes _ _) (bs_bytes _ _), N_num _ 8 0 (by rw [bs_length]), N_num _ 8 0 (by rw [bs_length]), List.drop_zero, List.drop_zero, num_bs 8 x x0, num_bs 8 y y0]
  simp [IntKind.wrap, IntKind.bits, IntKind.signed]
theorem sum32 (x y : Int) (x0 : 0 ≤ x) (x1 : x < 4294967296) (y0 : 0 ≤ y) (y1 : y < 4294967296) : num (nb (sumv (bs 4 x) (bs 4 y) 0 0 4) 0 0 4) = IntKind.u32.wrap (x + y) := by
  have h := nb_all (sumv (bs 4 x) (bs 4 y) 0 0 4)
  rw [sumv_length] at h
  rw [show ((4 : Nat) : Int) = 4 from rfl] at h
  rw [h, num_sumv _ _ (bs_bytes _ _) (bs_bytes _ _), N_num _ 4 0 (by rw [bs_length]), N_num _ 4 0 (by rw [bs_length]), List.drop_zero, List.drop_zero, num_bs 4 x x0, num_bs 4 y y0]
  simp [IntKind.wrap, IntKind.bits, IntKind.signed]
theorem wrap32 (x : Int) : IntKind.u32.wrap x = x % 4294967296 := by simp [IntKind.wrap, IntKind.bits, IntKind.signed]
theorem put32_d (x : Int) (w : World) : Calls Try.prog 20 #[.slice none 0 0, .int .u32 (IntKind.u32.wrap x)] w (RowPost 4 (bs 4 (x % 4294967296)) w) := by
  rw [wrap32]; exact put32_c _ (by omega) (by omega) w
theorem put64_d (x : Int) (w : World) : Calls Try.prog 18 #[.slice none 0 0, .int .u64 (IntKind.u64.wrap (IntKind.u32.wrap x))] w (RowPost 8 (bs 8 (x % 4294967296)) w) := by
  rw [wrap32, u64_id (by omega) (by omega)]; exact put64_c _ (by omega) (by omega) w
def adds.T8 : Bool × List (List Nat × List Nat) := (true, [([], []), ([0], [0]), ([1, 1], [1]), ([], []), ([3], [3]), ([], []), ([5], [5]), ([4, 6], [4, 6]), ([2, 7], [2, 7]), ([8, 2], [8]), ([9], [9]), ([10, 9], [9, 10]), ([11, 9, 9], [9, 11]), ([9], [9]), ([12, 13, 12, 9], [9, 12, 13]), ([14, 9], [9, 14]), ([9], [9]), ([16, 9], [9, 16]), ([17, 9], [9, 17]), ([18, 14, 9], [9, 18]), ([9], [9]), ([19, 20, 19, 9], [9, 19, 20]), ([21, 9], [9, 21]), ([15, 22, 21, 9], [9, 15, 22]), ([9, 23], [9, 23]), ([24, 23, 0, 1, 2, 3, 4, 5, 6, 7, 8, 9, 10, 11, 12, 13, 14, 15, 16, 17, 18, 19, 20, 21, 22, 23, 24], [24])])
def adds.B8 : List Nat := [0, 1, 3, 0, 8, 0, 32, 120, 255, 511, 1023, 2047, 4095, 1023, 16383, 32767, 1023, 66559, 197631, 491519, 1023, 2064383, 4161535, 8388607, 16777215, 33554431]
theorem adds.tab8 : rtab .any (opsOf Try.f8 8) = adds.T8 := by kernel_rfl
theorem adds.bits8 : waitsOk adds.T8.2 adds.B8 = true := by kernel_rfl
set_option maxHeartbeats 4000000 in
set_option maxRecDepth 100000 in
theorem adds_law (x y : Int) (x0 : 0 ≤ x) (x1 : x < 18446744073709551616) (y0 : 0 ≤ y) (y1 : y < 18446744073709551616) (w : World) :
    Calls Try.prog 8 #[.int .u64 x, .int .u64 y] w fun e w' => e = .returned (.bool true) ∧ Below w.heap.size w w' := by
  go_enter Try.func8, Try.ntmps8
  have HB := Aside0.mk (Below.refl w.heap.size w)
  go_wp2_with fail
  refine (PE.L.wakes_w _).mono ?_
  rintro e w' ⟨rfl, hB⟩
  replace HB := Aside0.mk (step_below HB.out hB)
  clear hB
  go_wp2_with fail
  refine (put64_c x x0 x1 _).mono ?_
  rintro e w' ⟨Aa, ca, rfl, la, ha, hB⟩
  replace HB := Aside0.mk (step_below HB.out hB)
  clear hB
  have Ha := Aside0.mk ha
  clear ha
  go_wp2_with fail
  refine (put64_c y y0 y1 _).mono ?_
  rintro e w' ⟨Ab, cb, rfl, lb, hb, hB⟩
  replace HB := Aside0.mk (step_below HB.out hB)
  replace Ha := Aside0.mk (Kd.C_below Ha.out hB)
  clear hB
  have Hb := Aside0.mk hb
  clear hb
  go_wp2_with fail
  refine (add_c Aa Ab 8 8 ca cb 8 (bs 8 x) (bs 8 y) _ Ha.out la Hb.out lb (bs_bytes _ _) (bs_bytes _ _) rfl (by omega)).mono ?_
  rintro e w' ⟨As, cs, rfl, ls, hs, hB⟩
  replace HB := Aside0.mk (step_below HB.out hB)
  replace Ha := Aside0.mk (Kd.C_below Ha.out hB)
  replace Hb := Aside0.mk (Kd.C_below Hb.out hB)
  clear hB
  have Hs := Aside0.mk hs
  clear hs
  go_wp2_with fail
  refine (read_c As 8 cs _ _ Hs.out ls (by omega)).mono ?_
  rintro e w' ⟨g, s, c, A, rfl, hR, hB⟩
  have h64 := u64_w _ g s c 0 A _ 0 (sumv_oct (bs 8 x) (bs 8 y) 8 0 0) (by rw [sumv_length]; omega) _ hB.size hR
  rw [sum64 x y x0 x1 y0 y1] at h64
  have hB1 := Aside0.mk hB
  clear hB hR
  go_wp2_with fail
  refine h64.mono ?_
  rintro e w' ⟨rfl, hR2, hK⟩
  have hB := hB1.out.trans hK.b
  clear h64 hR2 hK hB1
  replace HB := Aside0.mk (step_below HB.out hB)
  replace Ha := Aside0.mk (Kd.C_below Ha.out hB)
  replace Hb := Aside0.mk (Kd.C_below Hb.out hB)
  replace Hs := Aside0.mk (Kd.C_below Hs.out hB)
  clear hB
  go_wp2_with fail
  refine (add_c Ab Aa 8 8 cb ca 8 (bs 8 y) (bs 8 x) _ Hb.out lb Ha.out la (bs_bytes _ _) (bs_bytes _ _) rfl (by omega)).mono ?_
  rintro e w' ⟨At, ct, rfl, lt, ht, hB⟩
  replace HB := Aside0.mk (step_below HB.out hB)
  replace Ha := Aside0.mk (Kd.C_below Ha.out hB)
  replace Hb := Aside0.mk (Kd.C_below Hb.out hB)
  replace Hs := Aside0.mk (Kd.C_below Hs.out hB)
  clear hB
  have Ht := Aside0.mk ht
  clear ht
  go_wp2_with fail
  refine (eq_c As At 8 8 cs ct _ _ _ Hs.out ls Ht.out lt (sumv_oct _ _ _ _ _) (sumv_oct _ _ _ _ _) (sumv_comm _ _ _ _ _)).mono ?_
  rintro e w' ⟨rfl, ⟨kd, rfl⟩⟩
  replace HB := Aside0.mk (below_drewN' HB.out kd)
  replace Ha := Aside0.mk (Kd.C_drewN Ha.out kd)
  replace Hb := Aside0.mk (Kd.C_drewN Hb.out kd)
  clear Hs Ht
  go_wp2_with fail
  refine (add_c Aa none 8 0 ca 0 8 (bs 8 x) [] _ Ha.out la (Kd.C_nil _ _) (Nat.le_refl _) (bs_bytes _ _) oct_nil rfl (by omega)).mono ?_
  rintro e w' ⟨Au, cu, rfl, lu, hu, hB⟩
  replace HB := Aside0.mk (step_below HB.out hB)
  replace Ha := Aside0.mk (Kd.C_below Ha.out hB)
  replace Hb := Aside0.mk (Kd.C_below Hb.out hB)
  clear hB
  have Hu := Aside0.mk hu
  clear hu
  go_wp2_with fail
  refine (eq_c Au Aa 8 8 cu ca _ _ _ Hu.out lu Ha.out la (sumv_oct _ _ _ _ _) (bs_bytes _ _) (by rw [sumv_nil _ (bs_bytes _ _) 8 0 (by rw [bs_length])]; rfl)).mono ?_
  rintro e w' ⟨rfl, ⟨kd, rfl⟩⟩
  replace HB := Aside0.mk (below_drewN' HB.out kd)
  replace Ha := Aside0.mk (Kd.C_drewN Ha.out kd)
  replace Hb := Aside0.mk (Kd.C_drewN Hb.out kd)
  clear Hu
  go_wp2_with fail
  refine (add_c none Ab 0 8 0 cb 8 [] (bs 8 y) _ (Kd.C_nil _ _) (Nat.le_refl _) Hb.out lb oct_nil (bs_bytes _ _) rfl (by omega)).mono ?_
  rintro e w' ⟨Av, cv, rfl, lv, hv, hB⟩
  replace HB := Aside0.mk (step_below HB.out hB)
  replace Ha := Aside0.mk (Kd.C_below Ha.out hB)
  replace Hb := Aside0.mk (Kd.C_below Hb.out hB)
  clear hB
  have Hv := Aside0.mk hv
  clear hv
  go_wp2_with fail
  refine (eq_c Av Ab 8 8 cv cb _ _ _ Hv.out lv Hb.out lb (sumv_oct _ _ _ _ _) (bs_bytes _ _) (by rw [sumv_comm, sumv_nil _ (bs_bytes _ _) 8 0 (by rw [bs_length])]; rfl)).mono ?_
  rintro e w' ⟨rfl, ⟨kd, rfl⟩⟩
  replace HB := Aside0.mk (below_drewN' HB.out kd)
  replace Hb := Aside0.mk (Kd.C_drewN Hb.out kd)
  clear Hv Ha
  have zx0 : 0 ≤ x % 4294967296 := by omega
  have zx1 : x % 4294967296 < 4294967296 := by omega
  have zy0 : 0 ≤ y % 4294967296 := by omega
  have zy1 : y % 4294967296 < 4294967296 := by omega
  go_wp2_with fail
  refine (put32_c (x % 4294967296) zx0 zx1 _).mono ?_
  rintro e w' ⟨Ap, cp, rfl, lp, hp, hB⟩
  replace HB := Aside0.mk (step_below HB.out hB)
  replace Hb := Aside0.mk (Kd.C_below Hb.out hB)
  clear hB
  have Hp := Aside0.mk hp
  clear hp
  go_wp2_with fail
  refine (put32_c (y % 4294967296) zy0 zy1 _).mono ?_
  rintro e w' ⟨Aq, cq, rfl, lq, hq, hB⟩
  replace HB := Aside0.mk (step_below HB.out hB)
  replace Hb := Aside0.mk (Kd.C_below Hb.out hB)
  replace Hp := Aside0.mk (Kd.C_below Hp.out hB)
  clear hB
  have Hq := Aside0.mk hq
  clear hq
  go_wp2_with fail
  refine (add_c Ap Aq 4 4 cp cq 4 _ _ _ Hp.out lp Hq.out lq (bs_bytes _ _) (bs_bytes _ _) rfl (by omega)).mono ?_
  rintro e w' ⟨Ar, cr, rfl, lr, hr, hB⟩
  replace HB := Aside0.mk (step_below HB.out hB)
  replace Hb := Aside0.mk (Kd.C_below Hb.out hB)
  clear hB
  have Hr := Aside0.mk hr
  clear hr
  clear Hp Hq
  go_wp2_with fail
  replace HB := Aside0.mk (below_drew' HB.out)
  replace Hb := Aside0.mk (Kd.C_drew Hb.out)
  replace Hr := Aside0.mk (Kd.C_drew Hr.out)
  refine start_ (n := 26) (S := fun w' => True) (ds := []) #[false, false, false, false, false, false, false, false, false, false, false, false, false, false, false, false, false, false, false, false, false, false, false, false, false, false] (by kernel_rfl) rfl rfl trivial (fun hHeld => ?_); refine with_tabW adds.tab8 adds.bits8 (fun HT_ HW_ => ?_)
  generalize World.drew _ = W9 at HB Hb Hr hHeld ⊢
  refine pure_ (i := 0) (N := some 54) (v := ?_) (a' := ?_) #[true, false, false, false, false, false, false, false, false, false, false, false, false, false, false, false, false, false, false, false, false, false, false, false, false, false] rfl rfl (any_of HT_.out (by kernel_rfl)) (fun _ _ _ h => h) (Or.inl ⟨by rfl, ?_⟩) ?_ ?_
  rotate_left
  · intro w'
    go_simp
    with_reducible rfl
  rotate_left
  · (try simp only [Act.put, List.setIfInBounds_toArray, List.set_cons_zero, List.set_cons_succ])
    rfl
  refine pure_ (i := 3) (N := some 57) (v := ?_) (a' := ?_) #[true, false, false, true, false, false, false, false, false, false, false, false, false, false, false, false, false, false, false, false, false, false, false, false, false, false] rfl rfl (any_of HT_.out (by kernel_rfl)) (fun _ _ _ h => h) (Or.inl ⟨by rfl, ?_⟩) ?_ ?_
  rotate_left
  · intro w'
    go_simp
    with_reducible rfl
  rotate_left
  · (try simp only [Act.put, List.setIfInBounds_toArray, List.set_cons_zero, List.set_cons_succ])
    rfl
  refine pure_ (i := 4) (N := some 58) (v := ?_) (a' := ?_) #[true, false, false, true, true, false, false, false, false, false, false, false, false, false, false, false, false, false, false, false, false, false, false, false, false, false] rfl rfl (any_of HT_.out (by kernel_rfl)) (fun _ _ _ h => h) (Or.inl ⟨by rfl, ?_⟩) ?_ ?_
  rotate_left
  · intro w'
    go_simp
    with_reducible rfl
  rotate_left
  · (try simp only [Act.put, List.setIfInBounds_toArray, List.set_cons_zero, List.set_cons_succ])
    rfl
  refine pure_ (i := 5) (N := some 59) (v := ?_) (a' := ?_) #[true, false, false, true, true, true, false, false, false, false, false, false, false, false, false, false, false, false, false, false, false, false, false, false, false, false] rfl rfl (any_of HT_.out (by kernel_rfl)) (fun _ _ _ h => h) (Or.inl ⟨by rfl, ?_⟩) ?_ ?_
  rotate_left
  · intro w'
    go_simp
    with_reducible rfl
  rotate_left
  · (try simp only [Act.put, List.setIfInBounds_toArray, List.set_cons_zero, List.set_cons_succ])
    rfl
  refine pure_ (i := 6) (N := some 60) (v := ?_) (a' := ?_) #[true, false, false, true, true, true, true, false, false, false, false, false, false, false, false, false, false, false, false, false, false, false, false, false, false, false] rfl rfl (any_of HT_.out (by kernel_rfl)) (fun _ _ _ h => h) (Or.inl ⟨by rfl, ?_⟩) ?_ ?_
  rotate_left
  · intro w'
    go_simp
    with_reducible rfl
  rotate_left
  · (try simp only [Act.put, List.setIfInBounds_toArray, List.set_cons_zero, List.set_cons_succ])
    rfl
  refine pure_ (i := 7) (N := some 61) (v := ?_) (a' := ?_) #[true, false, false, true, true, true, true, true, false, false, false, false, false, false, false, false, false, false, false, false, false, false, false, false, false, false] rfl rfl (any_of HT_.out (by kernel_rfl)) (fun _ _ _ h => h) (Or.inl ⟨by rfl, ?_⟩) ?_ ?_
  rotate_left
  · intro w'
    go_simp
    with_reducible rfl
  rotate_left
  · (try simp only [Act.put, List.setIfInBounds_toArray, List.set_cons_zero, List.set_cons_succ])
    rfl
  refine one_ (i := 1) (N := some 55) #[true, true, false, true, true, true, true, true, false, false, false, false, false, false, false, false, false, false, false, false, false, false, false, false, false, false] rfl rfl (one_of HT_.out (by kernel_rfl)) (by decide) (fun K hK => ?_)
  refine goes_ Try.func23 (by kernel_rfl) rfl #[.slice Ar 4 cr] (by rfl) rfl rfl (by (try simp only [List.map_toArray, List.map_cons, List.map_nil]); first | done | rfl) ?_
  refine (read_c Ar 4 cr _ _ Hr.out lr (by omega)).mono ?_
  rintro e w' ⟨g2, s2, c2, A2, rfl, hR, hB⟩
  refine ⟨_, rfl, ?_⟩
  have h32 := u32_w _ g2 s2 c2 0 A2 _ 0 (sumv_oct (bs 4 (x % 4294967296)) (bs 4 (y % 4294967296)) 4 0 0) (by rw [sumv_length]; omega) _ hB.size hR
  rw [sum32 _ _ zx0 zx1 zy0 zy1, ← wrap32 x, ← wrap32 y] at h32
  have h32' := Aside0.mk h32
  have hB1 := Aside0.mk hB
  clear hB hR h32
  refine hK.out _ _ trivial (fun hHeld => ?_)
  clear hK K
  refine norm_ (a' := ?_) ?_ ?_
  rotate_left
  · show Act.put _ (some 55) _ = _
    (try simp only [Act.put, List.setIfInBounds_toArray, List.set_cons_zero, List.set_cons_succ])
    rfl
  refine one_ (i := 2) (N := some 56) #[true, true, true, true, true, true, true, true, false, false, false, false, false, false, false, false, false, false, false, false, false, false, false, false, false, false] rfl rfl (one_of HT_.out (by kernel_rfl)) (by decide) (fun K hK => ?_)
  refine goes_ Try.func29 (by kernel_rfl) rfl #[.pointer (some ⟨g2, 0, none⟩)] (by rfl) rfl rfl (by (try simp only [List.map_toArray, List.map_cons, List.map_nil]); first | done | rfl) ?_
  refine (h32'.out).mono ?_
  rintro e w' ⟨rfl, hR2, hK⟩
  refine ⟨_, rfl, ?_⟩
  have hB := hB1.out.trans hK.b
  clear h32' hR2 hK hB1
  replace HB := Aside0.mk (step_below HB.out hB)
  replace Hb := Aside0.mk (Kd.C_below Hb.out hB)
  clear hB
  refine hK.out _ _ trivial (fun hHeld => ?_)
  clear hK K
  refine norm_ (a' := ?_) ?_ ?_
  rotate_left
  · show Act.put _ (some 56) _ = _
    (try simp only [Act.put, List.setIfInBounds_toArray, List.set_cons_zero, List.set_cons_succ])
    rfl
  refine pure_ (i := 8) (N := some 62) (v := ?_) (a' := ?_) #[true, true, true, true, true, true, true, true, true, false, false, false, false, false, false, false, false, false, false, false, false, false, false, false, false, false] rfl rfl (any_of HT_.out (by kernel_rfl)) (fun _ _ _ h => h) (Or.inl ⟨by rfl, ?_⟩) ?_ ?_
  rotate_left
  · intro w'
    go_simp
    with_reducible rfl
  rotate_left
  · (try simp only [Act.put, List.setIfInBounds_toArray, List.set_cons_zero, List.set_cons_succ])
    rfl
  refine pure_ (i := 9) (N := some 63) (v := ?_) (a' := ?_) #[true, true, true, true, true, true, true, true, true, true, false, false, false, false, false, false, false, false, false, false, false, false, false, false, false, false] rfl rfl (any_of HT_.out (by kernel_rfl)) (fun _ _ _ h => h) (Or.inl ⟨by rfl, ?_⟩) ?_ ?_
  rotate_left
  · intro w'
    go_simp
    with_reducible rfl
  rotate_left
  · (try simp only [Act.put, List.setIfInBounds_toArray, List.set_cons_zero, List.set_cons_succ])
    rfl
  refine pure_ (i := 10) (N := some 64) (v := ?_) (a' := ?_) #[true, true, true, true, true, true, true, true, true, true, true, false, false, false, false, false, false, false, false, false, false, false, false, false, false, false] rfl rfl (any_of HT_.out (by kernel_rfl)) (fun _ _ _ h => h) (Or.inl ⟨by rfl, ?_⟩) ?_ ?_
  rotate_left
  · intro w'
    go_simp
    with_reducible rfl
  rotate_left
  · (try simp only [Act.put, List.setIfInBounds_toArray, List.set_cons_zero, List.set_cons_succ])
    rfl
  refine pure_ (i := 11) (N := some 65) (v := ?_) (a' := ?_) #[true, true, true, true, true, true, true, true, true, true, true, true, false, false, false, false, false, false, false, false, false, false, false, false, false, false] rfl rfl (any_of HT_.out (by kernel_rfl)) (fun _ _ _ h => h) (Or.inl ⟨by rfl, ?_⟩) ?_ ?_
  rotate_left
  · intro w'
    go_simp
    with_reducible rfl
  rotate_left
  · (try simp only [Act.put, List.setIfInBounds_toArray, List.set_cons_zero, List.set_cons_succ])
    rfl
  refine pure_ (i := 13) (N := some 67) (v := ?_) (a' := ?_) #[true, true, true, true, true, true, true, true, true, true, true, true, false, true, false, false, false, false, false, false, false, false, false, false, false, false] rfl rfl (any_of HT_.out (by kernel_rfl)) (fun _ _ _ h => h) (Or.inl ⟨by rfl, ?_⟩) ?_ ?_
  rotate_left
  · intro w'
    go_simp
    with_reducible rfl
  rotate_left
  · (try simp only [Act.put, List.setIfInBounds_toArray, List.set_cons_zero, List.set_cons_succ])
    rfl
  refine pure_ (i := 16) (N := some 70) (v := ?_) (a' := ?_) #[true, true, true, true, true, true, true, true, true, true, true, true, false, true, false, false, true, false, false, false, false, false, false, false, false, false] rfl rfl (any_of HT_.out (by kernel_rfl)) (fun _ _ _ h => h) (Or.inl ⟨by rfl, ?_⟩) ?_ ?_
  rotate_left
  · intro w'
    go_simp
    with_reducible rfl
  rotate_left
  · (try simp only [Act.put, List.setIfInBounds_toArray, List.set_cons_zero, List.set_cons_succ])
    rfl
  refine pure_ (i := 17) (N := some 71) (v := ?_) (a' := ?_) #[true, true, true, true, true, true, true, true, true, true, true, true, false, true, false, false, true, true, false, false, false, false, false, false, false, false] rfl rfl (any_of HT_.out (by kernel_rfl)) (fun _ _ _ h => h) (Or.inl ⟨by rfl, ?_⟩) ?_ ?_
  rotate_left
  · intro w'
    go_simp
    with_reducible rfl
  rotate_left
  · (try simp only [Act.put, List.setIfInBounds_toArray, List.set_cons_zero, List.set_cons_succ])
    rfl
  refine pure_ (i := 18) (N := some 72) (v := ?_) (a' := ?_) #[true, true, true, true, true, true, true, true, true, true, true, true, false, true, false, false, true, true, true, false, false, false, false, false, false, false] rfl rfl (any_of HT_.out (by kernel_rfl)) (fun _ _ _ h => h) (Or.inl ⟨by rfl, ?_⟩) ?_ ?_
  rotate_left
  · intro w'
    go_simp
    with_reducible rfl
  rotate_left
  · (try simp only [Act.put, List.setIfInBounds_toArray, List.set_cons_zero, List.set_cons_succ])
    rfl
  refine pure_ (i := 20) (N := some 74) (v := ?_) (a' := ?_) #[true, true, true, true, true, true, true, true, true, true, true, true, false, true, false, false, true, true, true, false, true, false, false, false, false, false] rfl rfl (any_of HT_.out (by kernel_rfl)) (fun _ _ _ h => h) (Or.inl ⟨by rfl, ?_⟩) ?_ ?_
  rotate_left
  · intro w'
    go_simp
    with_reducible rfl
  rotate_left
  · (try simp only [Act.put, List.setIfInBounds_toArray, List.set_cons_zero, List.set_cons_succ])
    rfl
  refine one_ (i := 12) (N := some 66) #[true, true, true, true, true, true, true, true, true, true, true, true, true, true, false, false, true, true, true, false, true, false, false, false, false, false] rfl rfl (one_of HT_.out (by kernel_rfl)) (by decide) (fun K hK => ?_)
  refine goes_ Try.func20 (by kernel_rfl) rfl #[.slice none 0 0, .int .u32 (IntKind.u32.wrap x)] (by rfl) rfl rfl (by (try simp only [List.map_toArray, List.map_cons, List.map_nil]); first | done | rfl) ?_
  refine (put32_d x _).mono ?_
  rintro e w' ⟨Ak, ck, rfl, lk, hk, hB⟩
  refine ⟨_, rfl, ?_⟩
  replace HB := Aside0.mk (step_below HB.out hB)
  replace Hb := Aside0.mk (Kd.C_below Hb.out hB)
  clear hB
  have Hk := Aside0.mk hk
  clear hk
  refine hK.out _ _ trivial (fun hHeld => ?_)
  clear hK K
  refine norm_ (a' := ?_) ?_ ?_
  rotate_left
  · show Act.put _ (some 66) _ = _
    (try simp only [Act.put, List.setIfInBounds_toArray, List.set_cons_zero, List.set_cons_succ])
    rfl
  refine one_ (i := 14) (N := some 68) #[true, true, true, true, true, true, true, true, true, true, true, true, true, true, true, false, true, true, true, false, true, false, false, false, false, false] rfl rfl (one_of HT_.out (by kernel_rfl)) (by decide) (fun K hK => ?_)
  refine goes_ Try.func15 (by kernel_rfl) rfl #[.slice Ak 4 ck, .slice Ab 8 cb] (by rfl) rfl rfl (by (try simp only [List.map_toArray, List.map_cons, List.map_nil]); first | done | rfl) ?_
  refine (add_c Ak Ab 4 8 ck cb 8 (bs 4 (x % 4294967296)) (bs 8 y) _ Hk.out lk Hb.out lb (bs_bytes _ _) (bs_bytes _ _) rfl (by omega)).mono ?_
  rintro e w' ⟨Am, cm, rfl, lm, hm, hB⟩
  refine ⟨_, rfl, ?_⟩
  replace HB := Aside0.mk (step_below HB.out hB)
  replace Hb := Aside0.mk (Kd.C_below Hb.out hB)
  clear hB
  have Hm := Aside0.mk hm
  clear hm Hk
  obtain ⟨im, him, _, hszm, _⟩ := info_parts PH.info5
  have hcutm := cut_from (P := Try.prog) 22 5 .i64 Try.underlying22 him 1 hszm Am 8 cm 4 (by omega) (by omega)
  have hdm := Kd.C_drop (m := (4 : Int).toNat) (c := cm) Hm.out (by rw [sumv_length]; decide) lm
  obtain ⟨Am', hAm⟩ : ∃ A1, A1 = (if cm = (4 : Int).toNat then Am else (Am : Option Addr).map (·.add ((4 : Int).toNat * 1))) := ⟨_, rfl⟩
  obtain ⟨cm', hcm⟩ : ∃ c1, c1 = cm - (4 : Int).toNat := ⟨_, rfl⟩
  replace hdm : Kd.C (Kd.int .u8) _ Am' 4 _ := (by rw [hAm]; exact hdm)
  rw [← hAm, ← hcm, show 8 - (4 : Int).toNat = 4 from rfl] at hcutm
  replace Hm := Aside0.mk hdm
  have lm' : 4 ≤ cm' := by rw [hcm]; have : (4 : Int).toNat = 4 := rfl; omega
  clear hdm him hszm hAm hcm
  refine hK.out _ _ trivial (fun hHeld => ?_)
  clear hK K
  refine norm_ (a' := ?_) ?_ ?_
  rotate_left
  · show Act.put _ (some 68) _ = _
    (try simp only [Act.put, List.setIfInBounds_toArray, List.set_cons_zero, List.set_cons_succ])
    rfl
  refine pure_ (i := 15) (N := some 69) (v := ?_) (a' := ?_) #[true, true, true, true, true, true, true, true, true, true, true, true, true, true, true, true, true, true, true, false, true, false, false, false, false, false] rfl rfl (any_of HT_.out (by kernel_rfl)) (fun _ _ _ h => h) (Or.inl ⟨by rfl, ?_⟩) ?_ ?_
  rotate_left
  · intro w'
    go_simp
    with_reducible rfl
  rotate_left
  · (try simp only [Act.put, List.setIfInBounds_toArray, List.set_cons_zero, List.set_cons_succ])
    rfl
  refine one_ (i := 19) (N := some 73) #[true, true, true, true, true, true, true, true, true, true, true, true, true, true, true, true, true, true, true, true, true, false, false, false, false, false] rfl rfl (one_of HT_.out (by kernel_rfl)) (by decide) (fun K hK => ?_)
  refine goes_ Try.func18 (by kernel_rfl) rfl #[.slice none 0 0, .int .u64 (IntKind.u64.wrap (IntKind.u32.wrap x))] (by rfl) rfl rfl (by (try simp only [List.map_toArray, List.map_cons, List.map_nil]); first | done | rfl) ?_
  refine (put64_d x _).mono ?_
  rintro e w' ⟨Ao, co, rfl, lo, ho, hB⟩
  refine ⟨_, rfl, ?_⟩
  replace HB := Aside0.mk (step_below HB.out hB)
  replace Hb := Aside0.mk (Kd.C_below Hb.out hB)
  replace Hm := Aside0.mk (Kd.C_below Hm.out hB)
  clear hB
  have Ho := Aside0.mk ho
  clear ho
  refine hK.out _ _ trivial (fun hHeld => ?_)
  clear hK K
  refine norm_ (a' := ?_) ?_ ?_
  rotate_left
  · show Act.put _ (some 73) _ = _
    (try simp only [Act.put, List.setIfInBounds_toArray, List.set_cons_zero, List.set_cons_succ])
    rfl
  refine one_ (i := 21) (N := some 75) #[true, true, true, true, true, true, true, true, true, true, true, true, true, true, true, true, true, true, true, true, true, true, false, false, false, false] rfl rfl (one_of HT_.out (by kernel_rfl)) (by decide) (fun K hK => ?_)
  refine goes_ Try.func15 (by kernel_rfl) rfl #[.slice Ao 8 co, .slice Ab 8 cb] (by rfl) rfl rfl (by (try simp only [List.map_toArray, List.map_cons, List.map_nil]); first | done | rfl) ?_
  refine (add_c Ao Ab 8 8 co cb 8 (bs 8 (x % 4294967296)) (bs 8 y) _ Ho.out lo Hb.out lb (bs_bytes _ _) (bs_bytes _ _) rfl (by omega)).mono ?_
  rintro e w' ⟨An, cn, rfl, lz, hn, hB⟩
  refine ⟨_, rfl, ?_⟩
  replace HB := Aside0.mk (step_below HB.out hB)
  replace Hb := Aside0.mk (Kd.C_below Hb.out hB)
  replace Hm := Aside0.mk (Kd.C_below Hm.out hB)
  clear hB
  have Hz := Aside0.mk hn
  clear hn Ho
  obtain ⟨iz, hiz, _, hszz, _⟩ := info_parts PH.info5
  have hcutz := cut_from (P := Try.prog) 22 5 .i64 Try.underlying22 hiz 1 hszz An 8 cn 4 (by omega) (by omega)
  have hdz := Kd.C_drop (m := (4 : Int).toNat) (c := cn) Hz.out (by rw [sumv_length]; decide) lz
  obtain ⟨Az', hAz⟩ : ∃ A1, A1 = (if cn = (4 : Int).toNat then An else (An : Option Addr).map (·.add ((4 : Int).toNat * 1))) := ⟨_, rfl⟩
  obtain ⟨cz', hcz⟩ : ∃ c1, c1 = cn - (4 : Int).toNat := ⟨_, rfl⟩
  replace hdz : Kd.C (Kd.int .u8) _ Az' 4 _ := (by rw [hAz]; exact hdz)
  rw [← hAz, ← hcz, show 8 - (4 : Int).toNat = 4 from rfl] at hcutz
  replace Hz := Aside0.mk hdz
  have lz' : 4 ≤ cz' := by rw [hcz]; have : (4 : Int).toNat = 4 := rfl; omega
  clear hdz hiz hszz hAz hcz
  refine hK.out _ _ trivial (fun hHeld => ?_)
  clear hK K
  refine norm_ (a' := ?_) ?_ ?_
  rotate_left
  · show Act.put _ (some 75) _ = _
    (try simp only [Act.put, List.setIfInBounds_toArray, List.set_cons_zero, List.set_cons_succ])
    rfl
  refine pure_ (i := 22) (N := some 76) (v := ?_) (a' := ?_) #[true, true, true, true, true, true, true, true, true, true, true, true, true, true, true, true, true, true, true, true, true, true, true, false, false, false] rfl rfl (any_of HT_.out (by kernel_rfl)) (fun _ _ _ h => h) (Or.inl ⟨by rfl, ?_⟩) ?_ ?_
  rotate_left
  · intro w'
    go_simp
    with_reducible rfl
  rotate_left
  · (try simp only [Act.put, List.setIfInBounds_toArray, List.set_cons_zero, List.set_cons_succ])
    rfl
  refine one_ (i := 23) (N := some 77) #[true, true, true, true, true, true, true, true, true, true, true, true, true, true, true, true, true, true, true, true, true, true, true, true, false, false] rfl rfl (one_of HT_.out (by kernel_rfl)) (by decide) (fun K hK => ?_)
  refine goes_ Try.func22 (by kernel_rfl) rfl #[.slice Am' 4 cm', .slice Az' 4 cz'] (by rfl) rfl rfl (by (try simp only [List.map_toArray, List.map_cons, List.map_nil]); first | done | rfl) ?_
  refine (eq_c Am' Az' 4 4 cm' cz' _ _ _ Hm.out lm' Hz.out lz' ((sumv_oct _ _ _ _ _).drop _) ((sumv_oct _ _ _ _ _).drop _) (by rw [sumv_congr _ _ (bs 8 y) (g48 _ zx0 zx1)])).mono ?_
  rintro e w' ⟨rfl, ⟨kd9, rfl⟩⟩
  refine ⟨_, rfl, ?_⟩
  replace HB := Aside0.mk (below_drewN' HB.out kd9)
  refine hK.out _ _ trivial (fun hHeld => ?_)
  clear hK K
  refine norm_ (a' := ?_) ?_ ?_
  rotate_left
  · show Act.put _ (some 77) _ = _
    (try simp only [Act.put, List.setIfInBounds_toArray, List.set_cons_zero, List.set_cons_succ])
    rfl
  refine pure_ (i := 24) (N := some 78) (v := ?_) (a' := ?_) #[true, true, true, true, true, true, true, true, true, true, true, true, true, true, true, true, true, true, true, true, true, true, true, true, true, false] rfl rfl (any_of HT_.out (by kernel_rfl)) (fun _ _ _ h => h) (Or.inl ⟨by rfl, ?_⟩) ?_ ?_
  rotate_left
  · intro w'
    go_simp
    with_reducible rfl
  rotate_left
  · (try simp only [Act.put, List.setIfInBounds_toArray, List.set_cons_zero, List.set_cons_succ])
    rfl
  refine pure_ (i := 25) (N := some 4) (v := ?_) (a' := ?_) #[true, true, true, true, true, true, true, true, true, true, true, true, true, true, true, true, true, true, true, true, true, true, true, true, true, true] rfl rfl (any_of HT_.out (by kernel_rfl)) (fun _ _ _ h => h) (Or.inl ⟨by rfl, ?_⟩) ?_ ?_
  rotate_left
  · intro w'
    go_simp
    with_reducible rfl
  rotate_left
  · (try simp only [Act.put, List.setIfInBounds_toArray, List.set_cons_zero, List.set_cons_succ])
    rfl
  refine done_ (done_of HT_.out (by kernel_rfl)) ?_
  try go_wp2
  go_ret
  exact ⟨rfl, HB.out⟩
end Go.Proofs.Ytpejeeemefmafaa.RD
