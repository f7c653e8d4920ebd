import Derived.Test.YtcpabgijmknldaaDoorUA
import Derived.Test.YtcpabgijmknldaaDoorUB
namespace Go.Proofs.YtcpabgijmknldaaDoor.RG
open Go.RowKit Go.Shelf Go.Proofs.YtcpabgijmknldaaDoorW.PrintWords Go.Proofs.YtcpabgijmknldaaDoorW.PrintLast Go.Proofs.YtcpabgijmknldaaDoorW.PrintMore
open Go.Proofs.YtcpabgijmknldaaDoor.PS (S29 S31 k29 k31 k31_open k31_openM k31_mkM k31_mk rd_T31 at_T31 z31 Rok rd_at Wide)
open Go.Proofs.YtcpabgijmknldaaDoor.PE.L (OfE)
set_option linter.unusedVariables false
set_option linter.unusedSimpArgs false
theorem act_ok (room nx : Int) (ls : List S31) (hR : Rok room nx ls) (i : Nat) (hi : i < ls.length) : 0 ≤ (rd_T31 ls i).f4.f0 ∧ (rd_T31 ls i).f4.f0 ≤ 7 := by
  have h := (hR.2.2.2.2.2.2.2 i hi).2.1
  unfold OfE at h
  split at h
  · omega
  · omega
set_option maxRecDepth 100000 in
set_option maxHeartbeats 8000000 in
theorem worst_ok (room nx : Int) (A : Option Addr) (c : Nat) (ls : List S31) (hW : Wide room nx ls) (hR : Rok room nx ls) (h0 : 0 < ls.length) (w : World) (hr : Kd.C k31 w A ls.length ls) (hc : ls.length ≤ c) (hT : Go.Proofs.YtcpabgijmknldaaDoor.PE.L.Tab w) :
    Calls Tryd.prog 21 #[.agg #[.int .i64 room, .int .u64 nx, .slice A ls.length c]] w fun e w' => e = .returned (.tuple #[lineV (minV ls (ls.length - 1)), .bool true]) ∧ Below w.heap.size w w' := by
  obtain ⟨M, hM⟩ : ∃ M, M = minV ls (ls.length - 1) := ⟨_, rfl⟩
  have hl := hW.2.2.2
  have hch : PS.U.log_Check.f room nx ls = some 0 := (if_pos hW).trans (congrArg some (if_pos hR))
  have HCH := Lib.hid hch
  clear hch
  have HB1 := Lib.hid (((Below.refl _ w).alloc (Nat.le_refl _) (.cells #[.int .i64 room, .int .u64 nx, .slice A ls.length c] 25)).alloc (by simp) (.cells #[.int .u64 0, .int .i64 0, .int .u32 0, .int .u32 0, .int .i64 0, .int .u16 0] 31))
  have HC1 := Lib.hid (Kd.C_below hr HB1.out)
  have HT1 := Lib.hid (Go.Proofs.YtcpabgijmknldaaDoor.PE.L.Tab.below hT HB1.out)
  have HX1 := Lib.hid ((Below.heap_alloc _ (.cells #[.int .u64 0, .int .i64 0, .int .u32 0, .int .u32 0, .int .i64 0, .int .u16 0] 31) _ (by simp)).trans (World.alloc_heap_new w (.cells #[.int .i64 room, .int .u64 nx, .slice A ls.length c] 25)))
  have hz := World.alloc_heap_new (w.alloc (.cells #[.int .i64 room, .int .u64 nx, .slice A ls.length c] 25)) (.cells #[.int .u64 0, .int .i64 0, .int .u32 0, .int .u32 0, .int .i64 0, .int .u16 0] 31)
  rw [World.size_alloc] at hz
  have HZ1 := Lib.hid hz
  have HMF := Lib.hid (fun (W : World) (h : Kd.C k31 W A ls.length ls) => minfunc_w A c ls (by omega) h0 (act_ok room nx ls hR) W h)
  have h0i : ¬ ((ls.length : Int) = 0) := by omega
  rw [← hM] at HMF ⊢
  clear hr hT hz hW hR hM
  go_enter Tryd.func21, Tryd.ntmps21
  go_wp2_with (first | (go_at_call 16; (with_reducible refine (PS.U.log_Check.calls room nx A c ls 0 _ HC1.out hc HCH.out HT1.out).mono ?_); rintro e1 w2 ⟨rfl, hb2⟩; have HX2 := Lib.hid ((hb2.block _ (blk_lt HX1.out)).trans HX1.out); have HZ2 := Lib.hid ((hb2.block _ (blk_lt HZ1.out)).trans HZ1.out); have HC2 := Lib.hid (Kd.C_below HC1.out hb2); have HB2 := Lib.hid (HB1.out.trans (hb2.mono HB1.out.size)); have y2 := blk_cell HX2.out 2; clear hb2) | (go_at_call 33; (with_reducible refine (HMF.out w2 HC2.out).mono ?_); rintro e2 w3 ⟨rfl, hb3⟩; have HZ3 := Lib.hid ((hb3.block _ (blk_lt HZ2.out)).trans HZ2.out); have HB3 := Lib.hid (HB2.out.trans (hb3.mono HB2.out.size)); clear hb3 y2; have d0 := blk_cell HZ3.out 0; have d1 := blk_cell HZ3.out 1; have d2 := blk_cell HZ3.out 2; have d3 := blk_cell HZ3.out 3; have d4 := blk_cell HZ3.out 4; have d5 := blk_cell HZ3.out 5; have f0 := blk_frozen HZ3.out 0; have f1 := blk_frozen HZ3.out 1; have f2 := blk_frozen HZ3.out 2; have f3 := blk_frozen HZ3.out 3; have f4 := blk_frozen HZ3.out 4; have f5 := blk_frozen HZ3.out 5; have lz := blk_lt HZ3.out))
  refine bodyPost_ret (v := .tuple #[lineV M, .bool true]) (by simp [results, Tryd.results21, go_sem, d0, d1, d2, d3, d4, d5, lz]) rfl ⟨rfl, ?_⟩
  repeat (with_reducible first | exact HB3.out | refine Below.setCell ?_ (by dsimp only; omega) _)
set_option maxRecDepth 100000 in
set_option maxHeartbeats 8000000 in
theorem worst_no (room nx : Int) (A : Option Addr) (c : Nat) (ls : List S31) (hW : Wide room nx ls) (hR : Rok room nx ls → ls.length = 0) (w : World) (hr : Kd.C k31 w A ls.length ls) (hc : ls.length ≤ c) (hT : Go.Proofs.YtcpabgijmknldaaDoor.PE.L.Tab w) :
    Calls Tryd.prog 21 #[.agg #[.int .i64 room, .int .u64 nx, .slice A ls.length c]] w fun e w' => e = .returned (.tuple #[.agg #[.int .u64 0, .int .i64 0, .int .u32 0, .int .u32 0, .int .i64 0, .int .u16 0], .bool false]) ∧ Below w.heap.size w w' := by
  obtain ⟨r, hrr⟩ : ∃ r, r = if Rok room nx ls then (0 : Int) else 370 := ⟨_, rfl⟩
  have hch : PS.U.log_Check.f room nx ls = some r := (if_pos hW).trans (congrArg some hrr.symm)
  have HCH := Lib.hid hch
  clear hch
  have HB1 := Lib.hid (((Below.refl _ w).alloc (Nat.le_refl _) (.cells #[.int .i64 room, .int .u64 nx, .slice A ls.length c] 25)).alloc (by simp) (.cells #[.int .u64 0, .int .i64 0, .int .u32 0, .int .u32 0, .int .i64 0, .int .u16 0] 31))
  have HC1 := Lib.hid (Kd.C_below hr HB1.out)
  have HT1 := Lib.hid (Go.Proofs.YtcpabgijmknldaaDoor.PE.L.Tab.below hT HB1.out)
  have HX1 := Lib.hid ((Below.heap_alloc _ (.cells #[.int .u64 0, .int .i64 0, .int .u32 0, .int .u32 0, .int .i64 0, .int .u16 0] 31) _ (by simp)).trans (World.alloc_heap_new w (.cells #[.int .i64 room, .int .u64 nx, .slice A ls.length c] 25)))
  have hz := World.alloc_heap_new (w.alloc (.cells #[.int .i64 room, .int .u64 nx, .slice A ls.length c] 25)) (.cells #[.int .u64 0, .int .i64 0, .int .u32 0, .int .u32 0, .int .i64 0, .int .u16 0] 31)
  rw [World.size_alloc] at hz
  have HZ1 := Lib.hid hz
  clear hr hT hz hW
  by_cases hr0 : r = 0
  · have hR' : Rok room nx ls := by
      by_cases h : Rok room nx ls
      · exact h
      · rw [if_neg h] at hrr; omega
    have hl0 := hR hR'
    subst hr0
    clear hR hR' hrr
    have hli : (ls.length : Int) = 0 := by omega
    clear hl0
    go_enter Tryd.func21, Tryd.ntmps21
    go_wp2_with (first | (go_at_call 16; (with_reducible refine (PS.U.log_Check.calls room nx A c ls 0 _ HC1.out hc HCH.out HT1.out).mono ?_); rintro e1 w2 ⟨rfl, hb2⟩; have HX2 := Lib.hid ((hb2.block _ (blk_lt HX1.out)).trans HX1.out); have HZ3 := Lib.hid ((hb2.block _ (blk_lt HZ1.out)).trans HZ1.out); have HB3 := Lib.hid (HB1.out.trans (hb2.mono HB1.out.size)); have y2 := blk_cell HX2.out 2; clear hb2; have d0 := blk_cell HZ3.out 0; have d1 := blk_cell HZ3.out 1; have d2 := blk_cell HZ3.out 2; have d3 := blk_cell HZ3.out 3; have d4 := blk_cell HZ3.out 4; have d5 := blk_cell HZ3.out 5; have f0 := blk_frozen HZ3.out 0; have f1 := blk_frozen HZ3.out 1; have f2 := blk_frozen HZ3.out 2; have f3 := blk_frozen HZ3.out 3; have f4 := blk_frozen HZ3.out 4; have f5 := blk_frozen HZ3.out 5; have lz := blk_lt HZ3.out))
    refine bodyPost_ret (v := .tuple #[.agg #[.int .u64 0, .int .i64 0, .int .u32 0, .int .u32 0, .int .i64 0, .int .u16 0], .bool false]) (by simp [results, Tryd.results21, go_sem, d0, d1, d2, d3, d4, d5, lz]) rfl ⟨rfl, ?_⟩
    repeat (with_reducible first | exact HB3.out | refine Below.setCell ?_ (by dsimp only; omega) _)
  · have hr1 : (r != 0) = true := by simpa using hr0
    clear hR hrr
    go_enter Tryd.func21, Tryd.ntmps21
    go_wp2_with (first | (go_at_call 16; (with_reducible refine (PS.U.log_Check.calls room nx A c ls r _ HC1.out hc HCH.out HT1.out).mono ?_); rintro e1 w2 ⟨rfl, hb2⟩; have HZ3 := Lib.hid ((hb2.block _ (blk_lt HZ1.out)).trans HZ1.out); have HB3 := Lib.hid (HB1.out.trans (hb2.mono HB1.out.size)); clear hb2; have d0 := blk_cell HZ3.out 0; have d1 := blk_cell HZ3.out 1; have d2 := blk_cell HZ3.out 2; have d3 := blk_cell HZ3.out 3; have d4 := blk_cell HZ3.out 4; have d5 := blk_cell HZ3.out 5; have f0 := blk_frozen HZ3.out 0; have f1 := blk_frozen HZ3.out 1; have f2 := blk_frozen HZ3.out 2; have f3 := blk_frozen HZ3.out 3; have f4 := blk_frozen HZ3.out 4; have f5 := blk_frozen HZ3.out 5; have lz := blk_lt HZ3.out))
    refine bodyPost_ret (v := .tuple #[.agg #[.int .u64 0, .int .i64 0, .int .u32 0, .int .u32 0, .int .i64 0, .int .u16 0], .bool false]) (by simp [results, Tryd.results21, go_sem, d0, d1, d2, d3, d4, d5, lz]) rfl ⟨rfl, ?_⟩
    repeat (with_reducible first | exact HB3.out | refine Below.setCell ?_ (by dsimp only; omega) _)
end Go.Proofs.YtcpabgijmknldaaDoor.RG
