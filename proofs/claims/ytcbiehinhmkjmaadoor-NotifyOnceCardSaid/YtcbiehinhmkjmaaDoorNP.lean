import Derived.Test.YtcbiehinhmkjmaaDoorNM
import Derived.Test.YtcbiehinhmkjmaaDoorPBs
namespace Go.Proofs.YtcbiehinhmkjmaaDoor.NB
open Go.RowKit Go.Proofs.YtcbiehinhmkjmaaDoorW.PrintWords Go.Proofs.YtcbiehinhmkjmaaDoorW.PrintLast Go.Proofs.YtcbiehinhmkjmaaDoorW.PrintMore
open Go.Proofs.YtcbiehinhmkjmaaDoor.PB
set_option linter.unusedVariables false
set_option linter.unusedSimpArgs false
open Go.Proofs.YtcbiehinhmkjmaaDoor.PE.L (Tab)

def x7 : S29 := ⟨7, 0, 0, ⟨0, 0, 0, 0, 0, 0⟩⟩
def n7 (t : Bool) : S36 := ⟨1, 3, x7, t⟩
theorem wk1 : askR 1 [] 3 x7 = (2, [n7 false], 0, 1) := by kernel_rfl
theorem wk2 : takeR 2 [n7 false] = (2, [n7 true], 0, n7 true) := by kernel_rfl
theorem wk3 : ansR 2 [n7 true] 1 true 0 = (2, [], 0, 3, true, 0) := by kernel_rfl
set_option maxRecDepth 100000 in
set_option maxHeartbeats 4000000 in
theorem wakes_w (w : World) (hT : Tab w) : Calls Tryd.prog 8 #[] w fun e w' => e = .returned (.bool true) ∧ Below w.heap.size w w' := by
  have HT := Lib.hid hT
  have hwp := hT.1
  clear hT
  go_enter Tryd.func8, Tryd.ntmps8
  go_wp2_with (first | (go_at_call 19; refine (notify_New.calls 1 [] _ rfl).mono ?_; rintro e w1 ⟨v1, rfl, hR1, hb1⟩; obtain ⟨A1, c1, rfl⟩ := Kd.R_slice hR1; have HR1 := Lib.hid hR1; have HB1 := Lib.hid hb1; clear hR1 hb1) | (go_at_call 10; refine (ask_w 1 A1 c1 [] 3 x7 (Kd.R_reads' HR1.out).2.1 _ (Kd.R_reads' HR1.out).2.2).mono ?_; rintro e w2 ⟨v2, he, hR2, hb2⟩; rw [wk1] at he hR2; dsimp only [n7, x7] at he; dsimp only at hR2; obtain ⟨A2, c2, rfl⟩ := Kd.R_slice hR2; subst he; have HR2 := Lib.hid hR2; have HB2 := Lib.hid (HB1.out.trans (hb2.mono HB1.out.size)); clear hR2 hb2) | (go_at_call 12; refine (take_w 2 A2 c2 [n7 false] (Kd.R_reads' HR2.out).2.1 _ (Kd.C_alloc (Kd.R_reads' HR2.out).2.2 _)).mono ?_; rintro e w3 ⟨v3, he, hR3, hb3⟩; rw [wk2] at he hR3; dsimp only [n7, x7] at he; dsimp only at hR3; obtain ⟨A3, c3, rfl⟩ := Kd.R_slice hR3; subst he; have HR3 := Lib.hid hR3; have HB3 := Lib.hid (HB2.out.trans (((Below.refl _ w2).alloc (Nat.le_refl _) _).trans (hb3.mono (by simp)) |>.mono HB2.out.size)); have HBx := Lib.hid hb3; clear hR3 hb3; have hsz2 : (w2.alloc (.cells #[.int .u64 2, .slice A2 1 c2] 25)).heap.size = w2.heap.size + 1 := (by simp only [World.size_alloc]); have HX3 := Lib.hid ((HBx.out.block w2.heap.size (by rw [hsz2]; omega)).trans (al_new w2 (.cells #[.int .u64 2, .slice A2 1 c2] 25))); have HR3b := Lib.hid (Kd.R_mono (Kd.R_bound HR3.out) (fun k hk => (show w2.heap.size + 1 ≤ k by have := hk.2.1; rw [hsz2] at this; exact this))); have x0 := blk_cell HX3.out 0; have x1 := blk_cell HX3.out 1; have xf0 := blk_frozen HX3.out 0; have xf1 := blk_frozen HX3.out 1; have xl := blk_lt HX3.out; have hw2 : 0 < w2.heap.size := (by have := HB2.out.size; omega); clear hsz2) | (go_at_call 15; refine (ans_w 2 A3 c3 [n7 true] 1 true 0 (Kd.R_reads' HR3.out).2.1 _ ?hT ?hr).mono ?_; (case hT => (repeat (with_reducible first | exact HT.out.below HB3.out | refine tab_far ?_ (by dsimp only; omega) _ | refine Go.Proofs.YtcbiehinhmkjmaaDoor.PE.L.Tab.alloc ?_ _))); (case hr => exact (Kd.R_reads' (ok := fun k => w2.heap.size + 1 ≤ k) (base := (w2.alloc (.cells #[.int .u64 2, .slice A2 1 c2] 25)).heap.size) (e := 36) (by repeat (with_reducible first | exact HR3b.out | refine Kd.R_far ?_ (fun k hk e => by dsimp only at e; omega) _ | refine Kd.R_alloc ?_ _))).2.2); rintro e w4 ⟨v4, he, hR4, hb4⟩; rw [wk3] at he hR4; dsimp only at he hR4; obtain ⟨A4, c4, rfl⟩ := Kd.R_slice hR4; subst he; have HB4 := Lib.hid hb4; clear hR4 hb4; have HBW : Below w.heap.size w (((w3.setCell ⟨w2.heap.size, 0, none⟩ (.int .u64 2)).setCell ⟨w2.heap.size, 1, none⟩ (.slice A3 1 c3)).alloc (.cells #[.int .u64 1, .int .i64 3, .int .u32 7, .int .u32 0, .int .u64 0, .int .u64 0, .int .u64 0, .int .u64 0, .int .u64 0, .int .u64 0, .int .u64 0, .bool true] 36)) := (bel_al ((HB3.out.setCell (by dsimp only; have := HB2.out.size; omega) _).setCell (by dsimp only; have := HB2.out.size; omega) _) _); have hn := al_new ((w3.setCell ⟨w2.heap.size, 0, none⟩ (.int .u64 2)).setCell ⟨w2.heap.size, 1, none⟩ (.slice A3 1 c3)) (.cells #[.int .u64 1, .int .i64 3, .int .u32 7, .int .u32 0, .int .u64 0, .int .u64 0, .int .u64 0, .int .u64 0, .int .u64 0, .int .u64 0, .int .u64 0, .bool true] 36); simp only [World.size_setCell] at hn; have HN4 := (HB4.out.block w3.heap.size (by simp only [World.size_alloc, World.size_setCell]; omega)).trans hn; clear hn; have n2 := blk_cell HN4 2; have nl := blk_lt HN4))
  go_ret
  exact ⟨rfl, (bel_al (bel_al (HBW.trans (HB4.out.mono HBW.size)) _) _)⟩
end Go.Proofs.YtcbiehinhmkjmaaDoor.NB
