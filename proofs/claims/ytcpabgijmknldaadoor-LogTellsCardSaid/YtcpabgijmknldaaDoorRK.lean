import Derived.Test.YtcpabgijmknldaaDoorRJ
import Derived.Test.YtcpabgijmknldaaDoorPSx4
import Derived.RangeFuncNested
import Derived.RangeFuncBound
import Derived.RangeFuncCalls
import Derived.RangeFuncLeaves
import Derived.RangeFuncBox
import Derived.Shelf.Abstract
import Derived.Shelf.RegionOpen
import Derived.WalkKit
import Derived.OwnWalkIn
import Derived.TacticsInMore
import Derived.LoopNIn
import Derived.LoopIn
import Derived.Outline
import Derived.Lib.Hide
namespace Go.Proofs.YtcpabgijmknldaaDoor.RG
open Go.RowKit Go.Shelf Go.Proofs.YtcpabgijmknldaaDoorW.PrintWords Go.Proofs.YtcpabgijmknldaaDoorW.PrintLast Go.Proofs.YtcpabgijmknldaaDoorW.PrintMore
open Go.Proofs.YtcpabgijmknldaaDoor.PS (S29 S31 k29 k31 k31_open k31_openM k31_mkM k31_mk rd_T31 at_T31 z31)
set_option linter.unusedVariables false
set_option linter.unusedSimpArgs false
attribute [local go_sem] Oper.semAt_some

open Go.Proofs.YtcpabgijmknldaaDoor.PS (log_Dropped.f log_Dropped.calls api_Line_37.f api_Line_37.calls)
set_option maxRecDepth 100000 in
set_option maxHeartbeats 4000000 in
theorem sinceF_w (room nx num : Int) (A : Option Addr) (n c : Nat) (w : World) : Calls Tryd.prog 36 #[.agg #[.int .i64 room, .int .u64 nx, .slice A n c], .int .u64 num] w fun e w' => ∃ Br Bm, e = .returned (.func (.func 40) #[] #[.pointer (some ⟨Br, 0, none⟩), .pointer (some ⟨Bm, 0, none⟩)]) ∧ w'.heap[Br]? = some (.cells #[.int .i64 room, .int .u64 nx, .slice A n c] 25 (0, 0)) ∧ Boxed w' Bm 22 (.int .u64 num) ∧ Below w.heap.size w w' := by
  go_enter Tryd.func36, Tryd.ntmps36
  go_wp2
  go_ret
  refine ⟨_, _, rfl, ?_, ?_, ((Below.refl _ w).alloc (Nat.le_refl _) _).alloc (by simp) _⟩
  · exact (Below.heap_alloc _ _ _ (by simp)).trans (World.alloc_heap_new w _)
  · have e := Boxed.new (w.alloc (.cells #[.int .i64 room, .int .u64 nx, .slice A n c] 25)) 22 (.int .u64 num)
    rw [World.size_alloc] at e
    exact e
set_option maxRecDepth 100000 in
set_option maxHeartbeats 4000000 in
theorem collect_w (Br Bm : Nat) (room nx num : Int) (A : Option Addr) (c : Nat) (ls : List S31) (hl : ls.length ≤ 1000) (w : World) (hC : Kd.C k31 w A ls.length ls) (hr : w.heap[Br]? = some (.cells #[.int .i64 room, .int .u64 nx, .slice A ls.length c] 25 (0, 0))) (hm : Boxed w Bm 22 (.int .u64 num)) :
    Calls Tryd.prog 35 #[.func (.func 40) #[] #[.pointer (some ⟨Br, 0, none⟩), .pointer (some ⟨Bm, 0, none⟩)]] w fun e w' => ∃ A' n' c', e = .returned (.slice A' n' c') ∧ Kd.R k31 31 w' w.heap.size (fun _ => True) (.slice A' n' c') (sinceB ls num) ∧ Below w.heap.size w w' := by
  have HA := Aside0.mk (appendSeq_w Br Bm room nx num A c ls hl w hC hr hm)
  clear hC hr hm
  go_enter Tryd.func35, Tryd.ntmps35
  go_wp2_with (go_at_call 39; (with_reducible refine (HA.out).mono ?_); rintro e w1 ⟨v, rfl, h1, h2⟩; obtain ⟨Ao, co, rfl⟩ := Kd.R_slice h1)
  go_ret
  exact ⟨_, _, _, rfl, h1, h2⟩
set_option maxRecDepth 100000 in
set_option maxHeartbeats 4000000 in
theorem since_bad (k : Nat) (room nx num g e : Int) (A : Option Addr) (c : Nat) (ls : List S31) (he : e ≠ 0) (h : log_Dropped.f k room nx ls = some (g, e)) (w : World) (hr : Kd.C k31 w A ls.length ls) (hc : ls.length ≤ c) (hT : Go.Proofs.YtcpabgijmknldaaDoor.PE.L.Tab w) :
    Calls Tryd.prog 22 #[.agg #[.int .i64 room, .int .u64 nx, .slice A ls.length c], .int .u64 num] w fun e' w' => ∃ v0, e' = .returned (.tuple #[v0, .int .u64 0, .int .i64 e]) ∧ Kd.R k31 31 w' w.heap.size (fun _ => True) v0 [] ∧ Below w.heap.size w w' := by
  obtain ⟨W1, hW1⟩ : ∃ W1, W1 = w.alloc (.cells #[.int .i64 room, .int .u64 nx, .slice A ls.length c] 25) := ⟨_, rfl⟩
  have hb1 : Below w.heap.size w W1 := by rw [hW1]; exact (Below.refl _ w).alloc (Nat.le_refl _) _
  have hx1 : W1.heap[w.heap.size]? = some (.cells #[.int .i64 room, .int .u64 nx, .slice A ls.length c] 25 (0, 0)) := by rw [hW1]; exact World.alloc_heap_new w _
  have HD := Aside0.mk (log_Dropped.calls k room nx A c ls g e W1 (Kd.C_below hr hb1) hc h (Go.Proofs.YtcpabgijmknldaaDoor.PE.L.Tab.below hT hb1))
  have hz := hb1.size
  rw [hW1] at HD
  have he' : (e != 0) = true := by simpa using he
  clear hr hT hx1
  go_enter Tryd.func22, Tryd.ntmps22
  go_wp2_with (go_at_call 15; (with_reducible refine (HD.out).mono ?_); rintro e1 w2 ⟨rfl, hb2⟩)
  go_ret3
  exact ⟨_, rfl, Kd.R_nil _ _ _ _ _, hb1.trans (by rw [hW1]; exact hb2.mono (by simp))⟩
set_option maxRecDepth 100000 in
set_option maxHeartbeats 4000000 in
theorem since_ok (k : Nat) (room nx num g : Int) (A : Option Addr) (c : Nat) (ls rv : List S31) (hl : ls.length ≤ 1000) (h : log_Dropped.f k room nx ls = some (g, 0)) (hrev : api_Line_37.f k (sinceB ls num) = some rv) (w : World) (hr : Kd.C k31 w A ls.length ls) (hc : ls.length ≤ c) (hT : Go.Proofs.YtcpabgijmknldaaDoor.PE.L.Tab w) :
    Calls Tryd.prog 22 #[.agg #[.int .i64 room, .int .u64 nx, .slice A ls.length c], .int .u64 num] w fun e' w' => ∃ v0, e' = .returned (.tuple #[v0, .int .u64 (goneV g num), .int .i64 0]) ∧ Kd.R k31 31 w' w.heap.size (fun _ => True) v0 rv ∧ Below w.heap.size w w' := by
  obtain ⟨W1, hW1⟩ : ∃ W1, W1 = w.alloc (.cells #[.int .i64 room, .int .u64 nx, .slice A ls.length c] 25) := ⟨_, rfl⟩
  have hb1 : Below w.heap.size w W1 := by rw [hW1]; exact (Below.refl _ w).alloc (Nat.le_refl _) _
  have hx1 : W1.heap[w.heap.size]? = some (.cells #[.int .i64 room, .int .u64 nx, .slice A ls.length c] 25 (0, 0)) := by rw [hW1]; exact World.alloc_heap_new w _
  have HX := Lib.hid hx1
  have HC1 := Lib.hid (Kd.C_below hr hb1)
  have HD := Aside0.mk (log_Dropped.calls k room nx A c ls g 0 W1 HC1.out hc h (Go.Proofs.YtcpabgijmknldaaDoor.PE.L.Tab.below hT hb1))
  have hz := hb1.size
  have HB1 := Lib.hid hb1
  have HW := Lib.hid hW1
  rw [hW1] at HD
  clear hr hT hx1 hb1 hW1 h
  obtain ⟨J, hJ⟩ : ∃ J, (if num < 1 then 1 else num) = J := ⟨_, rfl⟩
  go_enter Tryd.func22, Tryd.ntmps22
  go_wp2_with (first | (go_at_call 15; (with_reducible refine (HD.out).mono ?_); rintro e1 w2 ⟨rfl, hb2⟩; rw [← HW.out] at hb2; have hx2 := (hb2.block _ (blk_lt HX.out)).trans HX.out; have HC2 := Lib.hid (Kd.C_below HC1.out hb2); have HB2 := Lib.hid (HB1.out.trans (hb2.mono hz)); have y0 := blk_cell hx2 0; have y1 := blk_cell hx2 1; have y2 := blk_cell hx2 2; clear hx2 hb2)  | (go_at_call 36; (with_reducible refine (sinceF_w room nx num A ls.length c w2).mono ?_); rintro e2 w3 ⟨Br, Bm, rfl, hbr, hbm, hb3⟩; have HBR := Lib.hid hbr; have HBM := Lib.hid hbm; have HC3 := Lib.hid (Kd.C_below HC2.out hb3); have HB3 := Lib.hid (HB2.out.trans (hb3.mono HB2.out.size)); clear hbr hbm hb3)  | (go_at_call 35; (with_reducible refine (collect_w Br Bm room nx num A c ls hl w3 HC3.out HBR.out HBM.out).mono ?_); rintro e3 w4 ⟨Av, nv, cv, rfl, hv, hb4⟩; have HV := Lib.hid hv; have HB4 := Lib.hid hb4; clear hv hb4)  | (go_at_call 37; (with_reducible refine (api_Line_37.calls k (fun _ => True) (.slice Av nv cv) (sinceB ls num) rv w3 w4 HB4.out HV.out hrev).mono ?_); rintro e4 w5 ⟨rfl, hR5, hB5, -⟩; have HR5 := Lib.hid hR5; have HB5 := Lib.hid hB5; clear hR5 hB5))
  all_goals go_ret3
  all_goals refine ⟨.slice Av nv cv, (by first | (rw [show goneV g num = 0 from if_pos (by first | assumption | omega)]; rfl) | (rw [show goneV g num = IntKind.u64.wrap (IntKind.u64.wrap (g - J) + 1) from by unfold goneV; rw [if_neg (by first | assumption | omega), hJ]]; rfl)), Kd.R_mono (Kd.R_lower HR5.out HB3.out.size) (fun _ _ => trivial), HB3.out.trans (HB5.out.mono HB3.out.size)⟩
end Go.Proofs.YtcpabgijmknldaaDoor.RG
