-- printed by wip/tools/xprint.py (a program of this repo's over the kit's print)
import Derived.Test.YtcpabgijmknldaaDoorMS
import Derived.Test.YtcpabgijmknldaaDoorRK
namespace Go.Proofs.YtcpabgijmknldaaDoor.PS.T
open Go.RowKit Go.Proofs.YtcpabgijmknldaaDoorW.PrintWords Go.Proofs.YtcpabgijmknldaaDoorW.PrintLast Go.Proofs.YtcpabgijmknldaaDoorW.PrintMore
attribute [local go_sem] max2_int min2_int max_two min_two max_three min_three max_four min_four   -- for this text's walks alone
set_option linter.unusedVariables false
set_option linter.unusedSimpArgs false

-- NOT PRINTED: function 38 (effect_Of)

-- NOT PRINTED: function 26 (log_logged)

-- NOT PRINTED: function 27 (log_thread)

/-! ### log_Check: function 16 -/
def log_Check.f (a0_0 : Int) (a0_1 : Int) (l0_2 : List (S31)) : Option (Int) := if Wide a0_0 a0_1 l0_2 then some (if Rok a0_0 a0_1 l0_2 then 0 else 370) else none
theorem log_Check.calls (a0_0 : Int) (a0_1 : Int) (A0_2 : Option Addr) (c0_2 : Nat) (l0_2 : List (S31)) (r : Int) (w : World) (hr0_2 : Kd.C k31 w A0_2 l0_2.length l0_2) (hc0_2 : l0_2.length ≤ c0_2) (h : log_Check.f a0_0 a0_1 l0_2 = some r) (hT0 : Go.Proofs.YtcpabgijmknldaaDoor.PE.L.Tab w := by repeat (first | (with_reducible exact Aside0.out HT) | (with_reducible exact Go.Proofs.YtcpabgijmknldaaDoor.PE.L.Tab.below (Aside0.out HT) (Aside0.out (by assumption))) | (with_reducible refine Go.Proofs.YtcpabgijmknldaaDoor.PE.L.Tab.alloc ?_ _) | (with_reducible refine Go.Proofs.YtcpabgijmknldaaDoor.PE.L.Tab.drewN ?_ _) | (with_reducible refine Go.Proofs.YtcpabgijmknldaaDoor.PE.L.Tab.drew ?_) | (with_reducible refine Go.Proofs.YtcpabgijmknldaaDoor.PE.L.Tab.set ?_ HT (by assumption) _))) :
  Calls Tryd.prog 16 #[.agg #[.int .i64 a0_0, .int .u64 a0_1, .slice A0_2 l0_2.length c0_2]] w fun e w' => e = .returned (.int .i64 r) ∧ Below w.heap.size w w' := by
 have HT := Aside0.mk hT0
 clear hT0
 unfold log_Check.f at h
 split at h
 ·rename_i hd
  exact PS.log_Check.calls 1000 a0_0 a0_1 A0_2 c0_2 l0_2 r w hr0_2 hc0_2 ((check_f 1000 a0_0 a0_1 l0_2 hd.1 hd.2.1 hd.2.2.1 (by have := hd.2.2.2; omega) (by have := hd.2.2.2; omega)).trans h) HT.out
 ·cases h

-- NOT PRINTED: function 28 (api_Line_28)

-- NOT PRINTED: function 29 (log_cut)

-- NOT PRINTED: function 11 (log_Put)

-- NOT PRINTED: function 14 (log_New)

/-! ### log_Dropped: function 15 -/
def log_Dropped.f (a0_0 : Int) (a0_1 : Int) (l0_2 : List (S31)) : Option (Int × Int) := if Wide a0_0 a0_1 l0_2 then some (if Rok a0_0 a0_1 l0_2 then (a0_1 - 1 - l0_2.length, 0) else (0, 370)) else none
theorem log_Dropped.calls (a0_0 : Int) (a0_1 : Int) (A0_2 : Option Addr) (c0_2 : Nat) (l0_2 : List (S31)) (r1 : Int) (r2 : Int) (w : World) (hr0_2 : Kd.C k31 w A0_2 l0_2.length l0_2) (hc0_2 : l0_2.length ≤ c0_2) (h : log_Dropped.f a0_0 a0_1 l0_2 = some (r1, r2)) (hT0 : Go.Proofs.YtcpabgijmknldaaDoor.PE.L.Tab w := by repeat (first | (with_reducible exact Aside0.out HT) | (with_reducible exact Go.Proofs.YtcpabgijmknldaaDoor.PE.L.Tab.below (Aside0.out HT) (Aside0.out (by assumption))) | (with_reducible refine Go.Proofs.YtcpabgijmknldaaDoor.PE.L.Tab.alloc ?_ _) | (with_reducible refine Go.Proofs.YtcpabgijmknldaaDoor.PE.L.Tab.drewN ?_ _) | (with_reducible refine Go.Proofs.YtcpabgijmknldaaDoor.PE.L.Tab.drew ?_) | (with_reducible refine Go.Proofs.YtcpabgijmknldaaDoor.PE.L.Tab.set ?_ HT (by assumption) _))) :
  Calls Tryd.prog 15 #[.agg #[.int .i64 a0_0, .int .u64 a0_1, .slice A0_2 l0_2.length c0_2]] w fun e w' => e = .returned (.tuple #[.int .u64 r1, .int .i64 r2]) ∧ Below w.heap.size w w' := by
 have HT := Aside0.mk hT0
 clear hT0
 unfold log_Dropped.f at h
 split at h
 ·rename_i hd
  exact PS.log_Dropped.calls 1000 a0_0 a0_1 A0_2 c0_2 l0_2 r1 r2 w hr0_2 hc0_2 ((dropped2_f 1000 a0_0 a0_1 l0_2 hd.1 hd.2.1 hd.2.2.1 (by have := hd.2.2.2; omega) (by have := hd.2.2.2; omega)).trans h) HT.out
 ·cases h

/-! ### wicketgatelaw27_wakes: function 9 -/
def wicketgatelaw27_wakes.f  : Option (Bool) := if True then some (true) else none
theorem wicketgatelaw27_wakes.calls (r : Bool) (w : World) (h : wicketgatelaw27_wakes.f = some r) (hT0 : Go.Proofs.YtcpabgijmknldaaDoor.PE.L.Tab w := by repeat (first | (with_reducible exact Aside0.out HT) | (with_reducible exact Go.Proofs.YtcpabgijmknldaaDoor.PE.L.Tab.below (Aside0.out HT) (Aside0.out (by assumption))) | (with_reducible refine Go.Proofs.YtcpabgijmknldaaDoor.PE.L.Tab.alloc ?_ _) | (with_reducible refine Go.Proofs.YtcpabgijmknldaaDoor.PE.L.Tab.drewN ?_ _) | (with_reducible refine Go.Proofs.YtcpabgijmknldaaDoor.PE.L.Tab.drew ?_) | (with_reducible refine Go.Proofs.YtcpabgijmknldaaDoor.PE.L.Tab.set ?_ HT (by assumption) _))) :
  Calls Tryd.prog 9 #[] w fun e w' => e = .returned (.bool r) ∧ Below w.heap.size w w' := by
 have HT := Aside0.mk hT0
 clear hT0
 unfold wicketgatelaw27_wakes.f at h
 split at h
 ·rename_i hd
  exact PS.wicketgatelaw27_wakes.calls 100 r w ((wakes_ok).trans h) HT.out
 ·cases h

-- NOT PRINTED: function 39 (api_Line_39)

-- NOT PRINTED: function 35 (api_Line_35)

-- NOT PRINTED: function 36 (log_since)

-- NOT PRINTED: function 37 (api_Line_37)
theorem wicketgatelaw27_wakes.tt : wicketgatelaw27_wakes.f = some true := by decide +kernel
theorem wicketgatelaw27_wakes.only (r : Bool) (h : wicketgatelaw27_wakes.f = some r) : r = true := Option.some.inj (h.symm.trans wicketgatelaw27_wakes.tt)

/-! ### log_Since: function 22 -/
def log_Since.f (a0_0 : Int) (a0_1 : Int) (l0_2 : List (S31)) (a1 : Int) : Option (List (S31) × Int × Int) := if Wide a0_0 a0_1 l0_2 ∧ 0 ≤ a1 ∧ a1 ≤ 18446744073709551615 then some (sinceV a0_0 a0_1 a1 l0_2) else none
theorem log_Since.calls (a0_0 : Int) (a0_1 : Int) (A0_2 : Option Addr) (c0_2 : Nat) (l0_2 : List (S31)) (a1 : Int) (r1 : List (S31)) (r2 : Int) (r3 : Int) (w : World) (hr0_2 : Kd.C k31 w A0_2 l0_2.length l0_2) (hc0_2 : l0_2.length ≤ c0_2) (h : log_Since.f a0_0 a0_1 l0_2 a1 = some (r1, r2, r3)) (hT0 : Go.Proofs.YtcpabgijmknldaaDoor.PE.L.Tab w := by repeat (first | (with_reducible exact Aside0.out HT) | (with_reducible exact Go.Proofs.YtcpabgijmknldaaDoor.PE.L.Tab.below (Aside0.out HT) (Aside0.out (by assumption))) | (with_reducible refine Go.Proofs.YtcpabgijmknldaaDoor.PE.L.Tab.alloc ?_ _) | (with_reducible refine Go.Proofs.YtcpabgijmknldaaDoor.PE.L.Tab.drewN ?_ _) | (with_reducible refine Go.Proofs.YtcpabgijmknldaaDoor.PE.L.Tab.drew ?_) | (with_reducible refine Go.Proofs.YtcpabgijmknldaaDoor.PE.L.Tab.set ?_ HT (by assumption) _))) :
  Calls Tryd.prog 22 #[.agg #[.int .i64 a0_0, .int .u64 a0_1, .slice A0_2 l0_2.length c0_2], .int .u64 a1] w fun e w' => ∃ v0_ : Value, e = .returned (.tuple #[v0_, .int .u64 r2, .int .i64 r3]) ∧ Kd.R k31 31 w' w.heap.size (fun _ => True) v0_ r1 ∧ Below w.heap.size w w' := by
 have HT := Aside0.mk hT0
 clear hT0
 unfold log_Since.f at h
 split at h
 ·rename_i hd
  obtain ⟨⟨hD, hr, hn, hl⟩, h0, h1⟩ := hd
  have h' := Option.some.inj h
  have hdr := dropped2_f 1000 a0_0 a0_1 l0_2 hD hr hn (by omega) (by omega)
  unfold sinceV at h'
  by_cases hR : Rok a0_0 a0_1 l0_2
  ·rw [if_pos hR] at hdr h'
   have hs := sinceB_len a1 l0_2
   have hrev := reverse_f 1000 (RG.sinceB l0_2 a1) (by omega) (by omega)
   rw [sinceB_f a0_0 a0_1 a1 l0_2 hR] at hrev
   have hq := RG.since_ok 1000 a0_0 a0_1 a1 (a0_1 - 1 - l0_2.length) A0_2 c0_2 l0_2 (fromL a1 l0_2) (by omega) hdr hrev w hr0_2 hc0_2 HT.out
   obtain ⟨q1, q2, q3, q4, q5, q6, _⟩ := hR
   rw [gone_r _ _ h0 h1 (by omega) (by omega)] at hq
   simp only [Prod.mk.injEq] at h'
   obtain ⟨rfl, rfl, rfl⟩ := h'
   exact hq
  ·rw [if_neg hR] at hdr h'
   have hq := RG.since_bad 1000 a0_0 a0_1 a1 0 370 A0_2 c0_2 l0_2 (by decide) hdr w hr0_2 hc0_2 HT.out
   simp only [Prod.mk.injEq] at h'
   obtain ⟨rfl, rfl, rfl⟩ := h'
   exact hq
 ·cases h

/-! ### log_Of: function 23 -/
def log_Of.f (a0_0 : Int) (a0_1 : Int) (l0_2 : List (S31)) (a1 : Int) : Option (List (S31) × Int) := if Wide a0_0 a0_1 l0_2 then some (if Rok a0_0 a0_1 l0_2 then (ownL a1 l0_2, 0) else ([], 370)) else none
theorem log_Of.calls (a0_0 : Int) (a0_1 : Int) (A0_2 : Option Addr) (c0_2 : Nat) (l0_2 : List (S31)) (a1 : Int) (r1 : List (S31)) (r2 : Int) (w : World) (hr0_2 : Kd.C k31 w A0_2 l0_2.length l0_2) (hc0_2 : l0_2.length ≤ c0_2) (h : log_Of.f a0_0 a0_1 l0_2 a1 = some (r1, r2)) (hT0 : Go.Proofs.YtcpabgijmknldaaDoor.PE.L.Tab w := by repeat (first | (with_reducible exact Aside0.out HT) | (with_reducible exact Go.Proofs.YtcpabgijmknldaaDoor.PE.L.Tab.below (Aside0.out HT) (Aside0.out (by assumption))) | (with_reducible refine Go.Proofs.YtcpabgijmknldaaDoor.PE.L.Tab.alloc ?_ _) | (with_reducible refine Go.Proofs.YtcpabgijmknldaaDoor.PE.L.Tab.drewN ?_ _) | (with_reducible refine Go.Proofs.YtcpabgijmknldaaDoor.PE.L.Tab.drew ?_) | (with_reducible refine Go.Proofs.YtcpabgijmknldaaDoor.PE.L.Tab.set ?_ HT (by assumption) _))) :
  Calls Tryd.prog 23 #[.agg #[.int .i64 a0_0, .int .u64 a0_1, .slice A0_2 l0_2.length c0_2], .int .i64 a1] w fun e w' => ∃ v0_ : Value, e = .returned (.tuple #[v0_, .int .i64 r2]) ∧ Kd.R k31 31 w' w.heap.size (fun _ => True) v0_ r1 ∧ Below w.heap.size w w' := by
 have HT := Aside0.mk hT0
 clear hT0
 unfold log_Of.f at h
 split at h
 ·rename_i hd
  exact PS.log_Of.calls 1000 a0_0 a0_1 A0_2 c0_2 l0_2 a1 r1 r2 w hr0_2 hc0_2 ((of2_f 1000 a0_0 a0_1 l0_2 a1 hd.1 hd.2.1 hd.2.2.1 (by have := hd.2.2.2; omega) (by have := hd.2.2.2; omega)).trans h) HT.out
 ·cases h

/-! ### wicketgatelaw27_LogParts: function 8 -/
def wicketgatelaw27_LogParts.l0 : Nat → Int → List (S31) → Int → Int → Int → Int → Int → List (S31) → Option (Bool)
 | 0, _, _, _, _, _, _, _, _ => none
 | k + 1, x1, x5, x6, x8, x9, x110000, x110001, x110002 => if x9 ≤ 20 then ((log_Of.f x110000 x110001 x110002 x9).bind fun bt117 => (if bt117.2 = 0 then (wicketgatelaw27_LogParts.l0 k x1 x5 x6 (wrap64 (x8 + (bt117.1.length : Int))) (wrap64 (x9 + 1)) x110000 x110001 x110002) else (some false))) else (if (mx x1 1) < x110001 then ((log_Since.f x110000 x110001 x110002 x110001).bind fun bt121 => (if x8 = (x110002.length : Int) then (if (IntKind.u64.wrap ((IntKind.u64.wrap ((x5.length : Int))) + x6)) = (IntKind.u64.wrap (x110001 - (mx x1 1))) then (if bt121.2.2 = 0 then (if (bt121.1.length : Int) = 0 then (some (bt121.2.1 == 0)) else (some false)) else (some false)) else (some false)) else (some false))) else ((log_Since.f x110000 x110001 x110002 x110001).bind fun bt126 => (if x8 = (x110002.length : Int) then (if (IntKind.u64.wrap ((IntKind.u64.wrap ((x5.length : Int))) + x6)) = 0 then (if bt126.2.2 = 0 then (if (bt126.1.length : Int) = 0 then (some (bt126.2.1 == 0)) else (some false)) else (some false)) else (some false)) else (some false))))
def wicketgatelaw27_LogParts.f (k : Nat) (a0_0 : Int) (a0_1 : Int) (l0_2 : List (S31)) (a1 : Int) : Option (Bool) := (wicketgatelaw27_wakes.f).bind fun t110 => (if t110 = true then (if (l0_2.length : Int) > 200 then (some true) else ((log_Since.f a0_0 a0_1 l0_2 a1).bind fun bt111 => (if bt111.2.2 = 0 then (wicketgatelaw27_LogParts.l0 k a1 bt111.1 bt111.2.1 0 1 a0_0 a0_1 l0_2) else ((log_Check.f a0_0 a0_1 l0_2).bind fun t116 => (some (t116 != 0)))))) else (some false))
theorem wicketgatelaw27_LogParts.mono_l : ∀ k, (∀ y0 y1 y2 y3 y4 y5 y6 y7, LeO (wicketgatelaw27_LogParts.l0 k y0 y1 y2 y3 y4 y5 y6 y7) (wicketgatelaw27_LogParts.l0 (k + 1) y0 y1 y2 y3 y4 y5 y6 y7))
 | 0 => fun _ _ _ _ _ _ _ _ r h => by simp [wicketgatelaw27_LogParts.l0] at h
 | k + 1 => by
  have ih0 := wicketgatelaw27_LogParts.mono_l k
  ·intro y0 y1 y2 y3 y4 y5 y6 y7
   unfold wicketgatelaw27_LogParts.l0
   repeat' first
   | (with_reducible exact ih0 _ _ _ _ _ _ _ _)
   | (with_reducible exact LeO.refl _)
   | (with_reducible exact LeO.none _)
   | (with_reducible refine LeO.ite ?_ ?_)
   | (with_reducible refine LeO.bind ?_ (fun _ => ?_))
   | exact ih0 _ _ _ _ _ _ _ _
   | exact LeO.none _
   | refine LeO.ite ?_ ?_
   | refine LeO.bind ?_ (fun _ => ?_)
theorem wicketgatelaw27_LogParts.mono : ∀ a0 a1 a2 a3 k, LeO (wicketgatelaw27_LogParts.f k a0 a1 a2 a3) (wicketgatelaw27_LogParts.f (k + 1) a0 a1 a2 a3) := by
 intro a0 a1 a2 a3 k
 have ih0 := wicketgatelaw27_LogParts.mono_l k
 unfold wicketgatelaw27_LogParts.f
 repeat' first
   | (with_reducible exact ih0 _ _ _ _ _ _ _ _)
   | (with_reducible exact LeO.refl _)
   | (with_reducible exact LeO.none _)
   | (with_reducible refine LeO.ite ?_ ?_)
   | (with_reducible refine LeO.bind ?_ (fun _ => ?_))
   | exact ih0 _ _ _ _ _ _ _ _
   | exact LeO.none _
   | refine LeO.ite ?_ ?_
   | refine LeO.bind ?_ (fun _ => ?_)
set_option maxHeartbeats 8000000 in
set_option maxRecDepth 100000 in
theorem wicketgatelaw27_LogParts.calls (k : Nat) (a0_0 : Int) (a0_1 : Int) (A0_2 : Option Addr) (c0_2 : Nat) (l0_2 : List (S31)) (a1 : Int) (r : Bool) (w : World) (hr0_2 : Kd.C k31 w A0_2 l0_2.length l0_2) (hc0_2 : l0_2.length ≤ c0_2) (h : wicketgatelaw27_LogParts.f k a0_0 a0_1 l0_2 a1 = some r) (hr_ : r = true := by rfl) (hT0 : Go.Proofs.YtcpabgijmknldaaDoor.PE.L.Tab w := by repeat (first | (with_reducible exact Aside0.out HT) | (with_reducible exact Go.Proofs.YtcpabgijmknldaaDoor.PE.L.Tab.below (Aside0.out HT) (Aside0.out (by assumption))) | (with_reducible refine Go.Proofs.YtcpabgijmknldaaDoor.PE.L.Tab.alloc ?_ _) | (with_reducible refine Go.Proofs.YtcpabgijmknldaaDoor.PE.L.Tab.drewN ?_ _) | (with_reducible refine Go.Proofs.YtcpabgijmknldaaDoor.PE.L.Tab.drew ?_) | (with_reducible refine Go.Proofs.YtcpabgijmknldaaDoor.PE.L.Tab.set ?_ HT (by assumption) _))) :
  Calls Tryd.prog 8 #[.agg #[.int .i64 a0_0, .int .u64 a0_1, .slice A0_2 l0_2.length c0_2], .int .u64 a1] w fun e w' => e = .returned (.bool r) ∧ Below w.heap.size w w' := by
 have HT := Aside0.mk hT0
 clear hT0
 have HRr := Aside0.mk hr_
 clear hr_
 have hu25 := Tryd.underlying25
 have HR0_2 := Aside0.mk hr0_2
 have HC0_2 := Aside0.mk hc0_2
 clear hr0_2 hc0_2
 have HB := Aside0.mk (Below.refl w.heap.size w)
 have H : ((wicketgatelaw27_wakes.f).bind fun t110 => (if t110 = true then (if (l0_2.length : Int) > 200 then (some true) else ((log_Since.f a0_0 a0_1 l0_2 a1).bind fun bt111 => (if bt111.2.2 = 0 then (wicketgatelaw27_LogParts.l0 k a1 bt111.1 bt111.2.1 0 1 a0_0 a0_1 l0_2) else ((log_Check.f a0_0 a0_1 l0_2).bind fun t116 => (some (t116 != 0)))))) else (some false))) = some r := h
 clear h
 replace H := Option.bind_eq_some_iff.mp H
 obtain ⟨t110, A30, H⟩ := H
 replace H : (if t110 = true then (if (l0_2.length : Int) > 200 then (some true) else ((log_Since.f a0_0 a0_1 l0_2 a1).bind fun bt111 => (if bt111.2.2 = 0 then (wicketgatelaw27_LogParts.l0 k a1 bt111.1 bt111.2.1 0 1 a0_0 a0_1 l0_2) else ((log_Check.f a0_0 a0_1 l0_2).bind fun t116 => (some (t116 != 0)))))) else (some false)) = some r := H
 have A3 := Aside0.mk A30
 clear A30
 by_cases c4 : t110 = true
 ·subst c4
  have H1 : (if (l0_2.length : Int) > 200 then (some true) else ((log_Since.f a0_0 a0_1 l0_2 a1).bind fun bt111 => (if bt111.2.2 = 0 then (wicketgatelaw27_LogParts.l0 k a1 bt111.1 bt111.2.1 0 1 a0_0 a0_1 l0_2) else ((log_Check.f a0_0 a0_1 l0_2).bind fun t116 => (some (t116 != 0)))))) = some r := by rw [if_pos rfl] at H; exact H
  clear H
  have H := H1
  clear H1
  by_cases c5 : (l0_2.length : Int) > 200
  ·rw [if_pos c5] at H
   have c5b0 : decide (200 < (l0_2.length : Int)) = true := decide_eq_true c5
   have c5b1 : decide (200 < l0_2.length) = true := decide_eq_true (by omega)
   clear c5
   obtain rfl := Option.some.inj H
   go_enter Tryd.func8, Tryd.ntmps8
   go_wp2_with (first | ((with_reducible refine gate_dst (N := 2) rfl ?_); (try (refine gate_guard (by rfl) ?_; dsimp only)); refine box_event ?hg (N := 2) ?hd (cs := #[.int .i64 a0_0, .int .u64 a0_1, .slice A0_2 l0_2.length c0_2]) (t := 25) ?hr ?_; (case hd => rfl); (case hg => rfl); (case hr => first | (go_simp; done) | (go_simp; rfl)); intro gb109 hg w6 hbox hb; have n0_ := Aside0.mk (below_step (by repeat (first | (with_reducible first | exact HB.out | apply below_alloc | apply pw_below_drewN | apply below_drew1) | exact HB.out)) hb); have n1_ := Aside0.mk (hbox); have n2_ := Aside0.mk ((by rw [hg]; exact (below_size (by repeat (first | (with_reducible first | exact HB.out | apply below_alloc | apply pw_below_drewN | apply below_drew1) | exact HB.out))) : w.heap.size ≤ gb109)); have n3_ := Aside0.mk ((by rw [hg]; exact (below_size (by repeat (first | (with_reducible first | exact HB.out | apply below_alloc | apply pw_below_drewN | apply below_drew1) | exact HB.out))) : w.heap.size ≤ gb109)); clear HB; have HB := n0_; have BK109 := n1_; have GW109 := n2_; have GE109 := n3_; clear n0_ n1_ n2_ n3_; clear hb hbox hg) | ((with_reducible refine gate_callee (f := 9) rfl ?_); refine goesL_ (some 16) rfl rfl Tryd.func9 (by kernel_rfl) rfl #[] rfl (by (try simp only [List.map_toArray, List.map_cons, List.map_nil]); first | done | rfl | (simp only [List.length_drop, List.length_take]; rfl)) ?_; (with_reducible refine (wicketgatelaw27_wakes.calls  true _ A3.out).mono ?_); rintro e w7 ⟨rfl, hb⟩; refine ⟨_, rfl, ?_⟩; have n0_ := Aside0.mk (blk_below (g := gb109) (o := .cells #[.int .i64 a0_0, .int .u64 a0_1, .slice A0_2 l0_2.length c0_2] 25 (0, 0)) (by (with_reducible repeat (first | refine blk_drewN ?_ _ | refine blk_drew ?_ | refine blk_alloc ?_ _)); exact BK109.out) hb); have n1_ := Aside0.mk (below_step (by repeat (first | (with_reducible first | exact HB.out | apply below_alloc | apply pw_below_drewN | apply below_drew1 | refine below_set ?_ GE109.out) | exact HB.out)) hb); clear BK109; clear HB; have BK109 := n0_; have HB := n1_; clear n0_ n1_; (try clear hb); (try clear hb2); (try clear hk); (try clear hi); have hcz8_0 : w7.cell? ⟨gb109, 0, none⟩ = some (.int .i64 a0_0) := (blk_cell BK109.out 0).trans rfl; have hcz8_1 : w7.cell? ⟨gb109, 1, none⟩ = some (.int .u64 a0_1) := (blk_cell BK109.out 1).trans rfl; have hcz8_2 : w7.cell? ⟨gb109, 2, none⟩ = some (.slice A0_2 l0_2.length c0_2) := (blk_cell BK109.out 2).trans rfl; have hfz8_0 := blk_frozen BK109.out 0; have hfz8_1 := blk_frozen BK109.out 1; have hfz8_2 := blk_frozen BK109.out 2))
   go_ret
   exact ⟨by first | rfl | (simp [errW_none, errW_some] <;> rfl) | (simp [*, errW_none, errW_some] <;> rfl), by repeat (first | (with_reducible first | exact HB.out | apply below_alloc | apply pw_below_drewN | apply below_drew1 | refine below_set ?_ GE109.out) | exact HB.out)⟩
  ·rw [if_neg c5] at H
   have c5b0 : decide (200 < (l0_2.length : Int)) = false := decide_eq_false c5
   have c5b1 : decide (200 < l0_2.length) = false := decide_eq_false (by omega)
   clear c5
   replace H := Option.bind_eq_some_iff.mp H
   obtain ⟨⟨t111, t114, t115⟩, A90, H⟩ := H
   replace H : (if t115 = 0 then (wicketgatelaw27_LogParts.l0 k a1 t111 t114 0 1 a0_0 a0_1 l0_2) else ((log_Check.f a0_0 a0_1 l0_2).bind fun t116 => (some (t116 != 0)))) = some r := H
   have A9 := Aside0.mk A90
   clear A90
   by_cases c10 : t115 = 0
   ·rw [if_pos c10] at H
    have c10b0 : (t115 == 0) = true := beq_iff_eq.mpr c10
    have c10b1 : (t115 != 0) = false := bne_eq_false_iff_eq.mpr c10
    clear c10
    have H' := Aside0.mk H
    clear H
    go_enter Tryd.func8, Tryd.ntmps8
    go_wp2_with (first | ((with_reducible refine gate_dst (N := 2) rfl ?_); (try (refine gate_guard (by rfl) ?_; dsimp only)); refine box_event ?hg (N := 2) ?hd (cs := #[.int .i64 a0_0, .int .u64 a0_1, .slice A0_2 l0_2.length c0_2]) (t := 25) ?hr ?_; (case hd => rfl); (case hg => rfl); (case hr => first | (go_simp; done) | (go_simp; rfl)); intro gb109 hg w11 hbox hb; have n0_ := Aside0.mk (below_step (by repeat (first | (with_reducible first | exact HB.out | apply below_alloc | apply pw_below_drewN | apply below_drew1) | exact HB.out)) hb); have n1_ := Aside0.mk (hbox); have n2_ := Aside0.mk ((by rw [hg]; exact (below_size (by repeat (first | (with_reducible first | exact HB.out | apply below_alloc | apply pw_below_drewN | apply below_drew1) | exact HB.out))) : w.heap.size ≤ gb109)); have n3_ := Aside0.mk ((by rw [hg]; exact (below_size (by repeat (first | (with_reducible first | exact HB.out | apply below_alloc | apply pw_below_drewN | apply below_drew1) | exact HB.out))) : w.heap.size ≤ gb109)); clear HB; have HB := n0_; have BK109 := n1_; have GW109 := n2_; have GE109 := n3_; clear n0_ n1_ n2_ n3_; clear hb hbox hg) | ((with_reducible refine gate_callee (f := 9) rfl ?_); refine goesL_ (some 16) rfl rfl Tryd.func9 (by kernel_rfl) rfl #[] rfl (by (try simp only [List.map_toArray, List.map_cons, List.map_nil]); first | done | rfl | (simp only [List.length_drop, List.length_take]; rfl)) ?_; (with_reducible refine (wicketgatelaw27_wakes.calls  true _ A3.out).mono ?_); rintro e w12 ⟨rfl, hb⟩; refine ⟨_, rfl, ?_⟩; have n0_ := Aside0.mk (blk_below (g := gb109) (o := .cells #[.int .i64 a0_0, .int .u64 a0_1, .slice A0_2 l0_2.length c0_2] 25 (0, 0)) (by (with_reducible repeat (first | refine blk_drewN ?_ _ | refine blk_drew ?_ | refine blk_alloc ?_ _)); exact BK109.out) hb); have n1_ := Aside0.mk (below_step (by repeat (first | (with_reducible first | exact HB.out | apply below_alloc | apply pw_below_drewN | apply below_drew1 | refine below_set ?_ GE109.out) | exact HB.out)) hb); clear BK109; clear HB; have BK109 := n0_; have HB := n1_; clear n0_ n1_; (try clear hb); (try clear hb2); (try clear hk); (try clear hi); have hcz13_0 : w12.cell? ⟨gb109, 0, none⟩ = some (.int .i64 a0_0) := (blk_cell BK109.out 0).trans rfl; have hcz13_1 : w12.cell? ⟨gb109, 1, none⟩ = some (.int .u64 a0_1) := (blk_cell BK109.out 1).trans rfl; have hcz13_2 : w12.cell? ⟨gb109, 2, none⟩ = some (.slice A0_2 l0_2.length c0_2) := (blk_cell BK109.out 2).trans rfl; have hfz13_0 := blk_frozen BK109.out 0; have hfz13_1 := blk_frozen BK109.out 1; have hfz13_2 := blk_frozen BK109.out 2) | ((with_reducible refine gate_callee (f := 22) rfl ?_); refine goesL_ (some 25) rfl rfl Tryd.func22 (by kernel_rfl) rfl #[.agg #[.int .i64 a0_0, .int .u64 a0_1, .slice A0_2 l0_2.length c0_2], .int .u64 a1] rfl (by (try simp only [List.map_toArray, List.map_cons, List.map_nil]); first | done | rfl | (simp only [List.length_drop, List.length_take]; rfl)) ?_; (with_reducible refine (log_Since.calls a0_0 a0_1 _ _ l0_2 a1 t111 t114 t115 _ ?side1 ?side2 A9.out).mono ?_); (case side1 => repeat (first | exact (Kd.C_below HR0_2.out HB.out) | (with_reducible refine Kd.C_alloc ?_ _) | (with_reducible refine Kd.C_drewN ?_ _) | (with_reducible refine Kd.C_drew ?_))); (case side2 => exact HC0_2.out); rintro e w14 ⟨v112, rfl, ho0, hb⟩; refine ⟨_, rfl, ?_⟩; have n0_ := Aside0.mk (Kd.R_lower ho0 (below_size (by repeat (first | (with_reducible first | exact HB.out | apply below_alloc | apply pw_below_drewN | apply below_drew1 | refine below_set ?_ GE109.out) | exact HB.out)))); have n1_ := Aside0.mk (blk_below (g := gb109) (o := .cells #[.int .i64 a0_0, .int .u64 a0_1, .slice A0_2 l0_2.length c0_2] 25 (0, 0)) (by (with_reducible repeat (first | refine blk_drewN ?_ _ | refine blk_drew ?_ | refine blk_alloc ?_ _)); exact BK109.out) hb); have n2_ := Aside0.mk (below_step (by repeat (first | (with_reducible first | exact HB.out | apply below_alloc | apply pw_below_drewN | apply below_drew1 | refine below_set ?_ GE109.out) | exact HB.out)) hb); clear BK109; clear HB; have HO113 := n0_; have BK109 := n1_; have HB := n2_; clear n0_ n1_ n2_; (try clear hb); (try clear hb2); (try clear hk); (try clear hi); (try clear ho0)))
    go_loopg [8, 9] k (fun kq v8 v9 w' => ∃ (x8_1 : Int) (x9_1 : Int), v8 = .int .i64 x8_1 ∧ v9 = .int .i64 x9_1 ∧ Aside0 (wicketgatelaw27_LogParts.l0 kq a1 t111 t114 x8_1 x9_1 a0_0 a0_1 l0_2 = some r) ∧ Aside0 (kq ≤ k) ∧ Aside0 (Kd.R k31 31 w' w.heap.size (fun _ => True) v112 t111) ∧ Aside0 (w'.heap[gb109]? = some (.cells #[.int .i64 a0_0, .int .u64 a0_1, (.slice A0_2 l0_2.length c0_2)] 25 (0, 0))) ∧ Aside0 (Below w.heap.size w w'))
    case atStart => exact ⟨(0), (1), (by first | rfl | (simp; done) | (simp [*]; done)), (by first | rfl | (simp; done) | (simp [*]; done)), H', ⟨Nat.le_refl _⟩, ⟨by (with_reducible repeat (first | apply Kd.R_alloc | apply Kd.R_drewN | apply Kd.R_drew)); exact HO113.out⟩, ⟨by (with_reducible repeat (first | refine blk_drewN ?_ _ | refine blk_drew ?_ | refine blk_alloc ?_ _)); exact BK109.out⟩, ⟨by repeat (first | (with_reducible first | exact HB.out | apply below_alloc | apply pw_below_drewN | apply below_drew1 | refine below_set ?_ GE109.out) | exact HB.out)⟩⟩
    case round =>
     clear H'
     try clear c1
     try clear c2
     try clear p2
     try clear c4
     try clear c5
     try clear c5b0
     try clear c5b1
     try clear c8
     try clear c9
     try clear c10
     try clear c10b0
     try clear c10b1
     try clear hcz13_0
     try clear hcz13_1
     try clear hcz13_2
     try clear hcz8_0
     try clear hcz8_1
     try clear hcz8_2
     try clear hfz13_0
     try clear hfz13_1
     try clear hfz13_2
     try clear hfz8_0
     try clear hfz8_1
     try clear hfz8_2
     obtain ⟨x8_1, x9_1, rfl, rfl, HA, HK1, HO_5, BK109, HB⟩ := hrel
     cases gk with
     | zero => exact absurd HA.out (by simp [wicketgatelaw27_LogParts.l0])
     | succ k1 =>
      have H := HA.out
      clear HA
      simp only [wicketgatelaw27_LogParts.l0] at H
      by_cases c15 : x9_1 ≤ 20
      ·rw [if_pos c15] at H
       have c15b0 : decide (x9_1 ≤ 20) = true := decide_eq_true c15
       clear c15
       replace H := Option.bind_eq_some_iff.mp H
       obtain ⟨⟨t117, t120⟩, A160, H⟩ := H
       replace H : (if t120 = 0 then (wicketgatelaw27_LogParts.l0 k1 a1 t111 t114 (wrap64 (x8_1 + (t117.length : Int))) (wrap64 (x9_1 + 1)) a0_0 a0_1 l0_2) else (some false)) = some r := H
       have A16 := Aside0.mk A160
       clear A160
       by_cases c17 : t120 = 0
       ·rw [if_pos c17] at H
        have c17b0 : (t120 == 0) = true := beq_iff_eq.mpr c17
        have c17b1 : (t120 != 0) = false := bne_eq_false_iff_eq.mpr c17
        clear c17
        have H' := Aside0.mk H
        clear H
        have hcz18_0 : wr.cell? ⟨gb109, 0, none⟩ = some (.int .i64 a0_0) := (blk_cell BK109.out 0).trans rfl
        have hcz18_1 : wr.cell? ⟨gb109, 1, none⟩ = some (.int .u64 a0_1) := (blk_cell BK109.out 1).trans rfl
        have hcz18_2 : wr.cell? ⟨gb109, 2, none⟩ = some (.slice A0_2 l0_2.length c0_2) := (blk_cell BK109.out 2).trans rfl
        have hfz18_0 := blk_frozen BK109.out 0
        have hfz18_1 := blk_frozen BK109.out 1
        have hfz18_2 := blk_frozen BK109.out 2
        go_wp2_with (first | ((with_reducible refine gate_callee (f := 23) rfl ?_); refine goesL_ (some 41) rfl rfl Tryd.func23 (by kernel_rfl) rfl #[.agg #[.int .i64 a0_0, .int .u64 a0_1, .slice A0_2 l0_2.length c0_2], .int .i64 x9_1] rfl (by (try simp only [List.map_toArray, List.map_cons, List.map_nil]); first | done | rfl | (simp only [List.length_drop, List.length_take]; rfl)) ?_; (with_reducible refine (log_Of.calls a0_0 a0_1 _ _ l0_2 x9_1 t117 t120 _ ?side1 ?side2 A16.out).mono ?_); (case side1 => repeat (first | exact (Kd.C_below HR0_2.out HB.out) | (with_reducible refine Kd.C_alloc ?_ _) | (with_reducible refine Kd.C_drewN ?_ _) | (with_reducible refine Kd.C_drew ?_))); (case side2 => exact HC0_2.out); rintro e w19 ⟨v118, rfl, ho0, hb⟩; refine ⟨_, rfl, ?_⟩; have n0_ := Aside0.mk (Kd.R_elder' (by (with_reducible repeat (first | apply Kd.R_alloc | apply Kd.R_drewN | apply Kd.R_drew)); exact HO_5.out) (Kd.R_base ho0) hb); have n1_ := Aside0.mk (Kd.R_lower (Kd.R_new' ho0 (Kd.R_lt (by (with_reducible repeat (first | apply Kd.R_alloc | apply Kd.R_drewN | apply Kd.R_drew)); exact HO_5.out))) (below_size (by repeat (first | (with_reducible first | exact HB.out | apply below_alloc | apply pw_below_drewN | apply below_drew1 | refine below_set ?_ GE109.out) | exact HB.out)))); have n2_ := Aside0.mk (blk_below (g := gb109) (o := .cells #[.int .i64 a0_0, .int .u64 a0_1, .slice A0_2 l0_2.length c0_2] 25 (0, 0)) (by (with_reducible repeat (first | refine blk_drewN ?_ _ | refine blk_drew ?_ | refine blk_alloc ?_ _)); exact BK109.out) hb); have n3_ := Aside0.mk (below_step (by repeat (first | (with_reducible first | exact HB.out | apply below_alloc | apply pw_below_drewN | apply below_drew1 | refine below_set ?_ GE109.out) | exact HB.out)) hb); clear HO_5; clear BK109; clear HB; have HO_5 := n0_; have HO119 := n1_; have BK109 := n2_; have HB := n3_; clear n0_ n1_ n2_ n3_; (try clear hb); (try clear hb2); (try clear hk); (try clear hi); (try clear ho0); obtain ⟨Ao20, co20, eo20⟩ := Kd.R_slice HO119.out; subst eo20))
        go_roundg k1
        case measure => have := HK1.out; omega
        case rel => exact ⟨(wrap64 (x8_1 + (t117.length : Int))), (wrap64 (x9_1 + 1)), (by first | rfl | (simp; done) | (simp [*]; done)), (by first | rfl | (simp; done) | (simp [*]; done)), H', ⟨by have := HK1.out; omega⟩, ⟨by (with_reducible repeat (first | apply Kd.R_alloc | apply Kd.R_drewN | apply Kd.R_drew)); exact Kd.R_mono HO_5.out (fun _ hk => trivial)⟩, ⟨by (with_reducible repeat (first | refine blk_drewN ?_ _ | refine blk_drew ?_ | refine blk_alloc ?_ _)); exact BK109.out⟩, ⟨by repeat (first | (with_reducible first | exact HB.out | apply below_alloc | apply pw_below_drewN | apply below_drew1 | refine below_set ?_ GE109.out) | exact HB.out)⟩⟩
       ·rw [if_neg c17] at H
        have c17b0 : (t120 == 0) = false := beq_eq_false_iff_ne.mpr c17
        have c17b1 : (t120 != 0) = true := bne_iff_ne.mpr c17
        exact absurd ((Option.some.inj H).trans HRr.out) (by simp)
      ·rw [if_neg c15] at H
       have c15b0 : decide (x9_1 ≤ 20) = false := decide_eq_false c15
       clear c15
       obtain ⟨ji21, hji21⟩ : ∃ j_ : Int, (mx a1 1) = j_ := ⟨_, rfl⟩
       replace H : (if (ji21) < a0_1 then ((log_Since.f a0_0 a0_1 l0_2 a0_1).bind fun bt121 => (if x8_1 = (l0_2.length : Int) then (if (IntKind.u64.wrap ((IntKind.u64.wrap ((t111.length : Int))) + t114)) = (IntKind.u64.wrap (a0_1 - (ji21))) then (if bt121.2.2 = 0 then (if (bt121.1.length : Int) = 0 then (some (bt121.2.1 == 0)) else (some false)) else (some false)) else (some false)) else (some false))) else ((log_Since.f a0_0 a0_1 l0_2 a0_1).bind fun bt126 => (if x8_1 = (l0_2.length : Int) then (if (IntKind.u64.wrap ((IntKind.u64.wrap ((t111.length : Int))) + t114)) = 0 then (if bt126.2.2 = 0 then (if (bt126.1.length : Int) = 0 then (some (bt126.2.1 == 0)) else (some false)) else (some false)) else (some false)) else (some false)))) = some r := by first | (rw [hji21] at H; exact H) | (simp only [hji21] at H ⊢; exact H)
       have hji21_ : (if a1 < 1 then 1 else a1) = ji21 := hji21
       by_cases c22 : (ji21) < a0_1
       ·rw [if_pos c22] at H
        have c22b0 : decide ((ji21) < a0_1) = true := decide_eq_true c22
        clear c22
        replace H := Option.bind_eq_some_iff.mp H
        obtain ⟨⟨t121, t124, t125⟩, A230, H⟩ := H
        replace H : (if x8_1 = (l0_2.length : Int) then (if (IntKind.u64.wrap ((IntKind.u64.wrap ((t111.length : Int))) + t114)) = (IntKind.u64.wrap (a0_1 - (ji21))) then (if t125 = 0 then (if (t121.length : Int) = 0 then (some (t124 == 0)) else (some false)) else (some false)) else (some false)) else (some false)) = some r := H
        have A23 := Aside0.mk A230
        clear A230
        by_cases c24 : x8_1 = (l0_2.length : Int)
        ·rw [if_pos c24] at H
         have c24b0 : (x8_1 == (l0_2.length : Int)) = true := beq_iff_eq.mpr c24
         have c24b1 : (x8_1 != (l0_2.length : Int)) = false := bne_eq_false_iff_eq.mpr c24
         clear c24
         by_cases c25 : (IntKind.u64.wrap ((IntKind.u64.wrap ((t111.length : Int))) + t114)) = (IntKind.u64.wrap (a0_1 - (ji21)))
         ·rw [if_pos c25] at H
          have c25b0 : ((IntKind.u64.wrap ((IntKind.u64.wrap ((t111.length : Int))) + t114)) == (IntKind.u64.wrap (a0_1 - (ji21)))) = true := beq_iff_eq.mpr c25
          have c25b1 : ((IntKind.u64.wrap ((IntKind.u64.wrap ((t111.length : Int))) + t114)) != (IntKind.u64.wrap (a0_1 - (ji21)))) = false := bne_eq_false_iff_eq.mpr c25
          clear c25
          by_cases c26 : t125 = 0
          ·rw [if_pos c26] at H
           have c26b0 : (t125 == 0) = true := beq_iff_eq.mpr c26
           have c26b1 : (t125 != 0) = false := bne_eq_false_iff_eq.mpr c26
           clear c26
           by_cases c27 : (t121.length : Int) = 0
           ·rw [if_pos c27] at H
            have c27b0 : ((t121.length : Int) == 0) = true := beq_iff_eq.mpr c27
            have c27b1 : ((t121.length : Int) != 0) = false := bne_eq_false_iff_eq.mpr c27
            clear c27
            obtain rfl := Option.some.inj H
            have hcz28_0 : wr.cell? ⟨gb109, 0, none⟩ = some (.int .i64 a0_0) := (blk_cell BK109.out 0).trans rfl
            have hcz28_1 : wr.cell? ⟨gb109, 1, none⟩ = some (.int .u64 a0_1) := (blk_cell BK109.out 1).trans rfl
            have hcz28_2 : wr.cell? ⟨gb109, 2, none⟩ = some (.slice A0_2 l0_2.length c0_2) := (blk_cell BK109.out 2).trans rfl
            have hfz28_0 := blk_frozen BK109.out 0
            have hfz28_1 := blk_frozen BK109.out 1
            have hfz28_2 := blk_frozen BK109.out 2
            go_wp2_with (first | ((with_reducible refine gate_callee (f := 22) rfl ?_); refine goesL_ (some 64) rfl rfl Tryd.func22 (by kernel_rfl) rfl #[.agg #[.int .i64 a0_0, .int .u64 a0_1, .slice A0_2 l0_2.length c0_2], .int .u64 a0_1] rfl (by (try simp only [List.map_toArray, List.map_cons, List.map_nil]); first | done | rfl | (simp only [List.length_drop, List.length_take]; rfl)) ?_; (with_reducible refine (log_Since.calls a0_0 a0_1 _ _ l0_2 a0_1 t121 t124 t125 _ ?side1 ?side2 A23.out).mono ?_); (case side1 => repeat (first | exact (Kd.C_below HR0_2.out HB.out) | (with_reducible refine Kd.C_alloc ?_ _) | (with_reducible refine Kd.C_drewN ?_ _) | (with_reducible refine Kd.C_drew ?_))); (case side2 => exact HC0_2.out); rintro e w29 ⟨v122, rfl, ho0, hb⟩; refine ⟨_, rfl, ?_⟩; have n0_ := Aside0.mk (Kd.R_elder' (by (with_reducible repeat (first | apply Kd.R_alloc | apply Kd.R_drewN | apply Kd.R_drew)); exact HO_5.out) (Kd.R_base ho0) hb); have n1_ := Aside0.mk (Kd.R_lower (Kd.R_new' ho0 (Kd.R_lt (by (with_reducible repeat (first | apply Kd.R_alloc | apply Kd.R_drewN | apply Kd.R_drew)); exact HO_5.out))) (below_size (by repeat (first | (with_reducible first | exact HB.out | apply below_alloc | apply pw_below_drewN | apply below_drew1 | refine below_set ?_ GE109.out) | exact HB.out)))); have n2_ := Aside0.mk (blk_below (g := gb109) (o := .cells #[.int .i64 a0_0, .int .u64 a0_1, .slice A0_2 l0_2.length c0_2] 25 (0, 0)) (by (with_reducible repeat (first | refine blk_drewN ?_ _ | refine blk_drew ?_ | refine blk_alloc ?_ _)); exact BK109.out) hb); have n3_ := Aside0.mk (below_step (by repeat (first | (with_reducible first | exact HB.out | apply below_alloc | apply pw_below_drewN | apply below_drew1 | refine below_set ?_ GE109.out) | exact HB.out)) hb); clear HO_5; clear BK109; clear HB; have HO_5 := n0_; have HO123 := n1_; have BK109 := n2_; have HB := n3_; clear n0_ n1_ n2_ n3_; (try clear hb); (try clear hb2); (try clear hk); (try clear hi); (try clear ho0); have hcz30_0 : w29.cell? ⟨gb109, 0, none⟩ = some (.int .i64 a0_0) := (blk_cell BK109.out 0).trans rfl; have hcz30_1 : w29.cell? ⟨gb109, 1, none⟩ = some (.int .u64 a0_1) := (blk_cell BK109.out 1).trans rfl; have hcz30_2 : w29.cell? ⟨gb109, 2, none⟩ = some (.slice A0_2 l0_2.length c0_2) := (blk_cell BK109.out 2).trans rfl; have hfz30_0 := blk_frozen BK109.out 0; have hfz30_1 := blk_frozen BK109.out 1; have hfz30_2 := blk_frozen BK109.out 2; obtain ⟨Ao31, co31, eo31⟩ := Kd.R_slice HO_5.out; subst eo31; obtain ⟨Ao32, co32, eo32⟩ := Kd.R_slice HO123.out; subst eo32))
            go_ret
            exact ⟨by first | rfl | (simp [errW_none, errW_some] <;> rfl) | (simp only [← hji21]; first | rfl | (simp [errW_none, errW_some] <;> rfl)) | (simp [*, errW_none, errW_some] <;> rfl), by repeat (first | (with_reducible first | exact HB.out | apply below_alloc | apply pw_below_drewN | apply below_drew1 | refine below_set ?_ GE109.out) | exact HB.out)⟩
           ·rw [if_neg c27] at H
            have c27b0 : ((t121.length : Int) == 0) = false := beq_eq_false_iff_ne.mpr c27
            have c27b1 : ((t121.length : Int) != 0) = true := bne_iff_ne.mpr c27
            have c27b2 : ¬ (t121 = []) := fun h_ => c27 (by rw [h_]; rfl)
            exact absurd ((Option.some.inj H).trans HRr.out) (by simp)
          ·rw [if_neg c26] at H
           have c26b0 : (t125 == 0) = false := beq_eq_false_iff_ne.mpr c26
           have c26b1 : (t125 != 0) = true := bne_iff_ne.mpr c26
           exact absurd ((Option.some.inj H).trans HRr.out) (by simp)
         ·rw [if_neg c25] at H
          have c25b0 : ((IntKind.u64.wrap ((IntKind.u64.wrap ((t111.length : Int))) + t114)) == (IntKind.u64.wrap (a0_1 - (ji21)))) = false := beq_eq_false_iff_ne.mpr c25
          have c25b1 : ((IntKind.u64.wrap ((IntKind.u64.wrap ((t111.length : Int))) + t114)) != (IntKind.u64.wrap (a0_1 - (ji21)))) = true := bne_iff_ne.mpr c25
          exact absurd ((Option.some.inj H).trans HRr.out) (by simp)
        ·rw [if_neg c24] at H
         have c24b0 : (x8_1 == (l0_2.length : Int)) = false := beq_eq_false_iff_ne.mpr c24
         have c24b1 : (x8_1 != (l0_2.length : Int)) = true := bne_iff_ne.mpr c24
         exact absurd ((Option.some.inj H).trans HRr.out) (by simp)
       ·rw [if_neg c22] at H
        have c22b0 : decide ((ji21) < a0_1) = false := decide_eq_false c22
        clear c22
        replace H := Option.bind_eq_some_iff.mp H
        obtain ⟨⟨t126, t129, t130⟩, A330, H⟩ := H
        replace H : (if x8_1 = (l0_2.length : Int) then (if (IntKind.u64.wrap ((IntKind.u64.wrap ((t111.length : Int))) + t114)) = 0 then (if t130 = 0 then (if (t126.length : Int) = 0 then (some (t129 == 0)) else (some false)) else (some false)) else (some false)) else (some false)) = some r := H
        have A33 := Aside0.mk A330
        clear A330
        by_cases c34 : x8_1 = (l0_2.length : Int)
        ·rw [if_pos c34] at H
         have c34b0 : (x8_1 == (l0_2.length : Int)) = true := beq_iff_eq.mpr c34
         have c34b1 : (x8_1 != (l0_2.length : Int)) = false := bne_eq_false_iff_eq.mpr c34
         clear c34
         by_cases c35 : (IntKind.u64.wrap ((IntKind.u64.wrap ((t111.length : Int))) + t114)) = 0
         ·rw [if_pos c35] at H
          have c35b0 : ((IntKind.u64.wrap ((IntKind.u64.wrap ((t111.length : Int))) + t114)) == 0) = true := beq_iff_eq.mpr c35
          have c35b1 : ((IntKind.u64.wrap ((IntKind.u64.wrap ((t111.length : Int))) + t114)) != 0) = false := bne_eq_false_iff_eq.mpr c35
          clear c35
          by_cases c36 : t130 = 0
          ·rw [if_pos c36] at H
           have c36b0 : (t130 == 0) = true := beq_iff_eq.mpr c36
           have c36b1 : (t130 != 0) = false := bne_eq_false_iff_eq.mpr c36
           clear c36
           by_cases c37 : (t126.length : Int) = 0
           ·rw [if_pos c37] at H
            have c37b0 : ((t126.length : Int) == 0) = true := beq_iff_eq.mpr c37
            have c37b1 : ((t126.length : Int) != 0) = false := bne_eq_false_iff_eq.mpr c37
            clear c37
            obtain rfl := Option.some.inj H
            have hcz38_0 : wr.cell? ⟨gb109, 0, none⟩ = some (.int .i64 a0_0) := (blk_cell BK109.out 0).trans rfl
            have hcz38_1 : wr.cell? ⟨gb109, 1, none⟩ = some (.int .u64 a0_1) := (blk_cell BK109.out 1).trans rfl
            have hcz38_2 : wr.cell? ⟨gb109, 2, none⟩ = some (.slice A0_2 l0_2.length c0_2) := (blk_cell BK109.out 2).trans rfl
            have hfz38_0 := blk_frozen BK109.out 0
            have hfz38_1 := blk_frozen BK109.out 1
            have hfz38_2 := blk_frozen BK109.out 2
            go_wp2_with (first | ((with_reducible refine gate_callee (f := 22) rfl ?_); refine goesL_ (some 64) rfl rfl Tryd.func22 (by kernel_rfl) rfl #[.agg #[.int .i64 a0_0, .int .u64 a0_1, .slice A0_2 l0_2.length c0_2], .int .u64 a0_1] rfl (by (try simp only [List.map_toArray, List.map_cons, List.map_nil]); first | done | rfl | (simp only [List.length_drop, List.length_take]; rfl)) ?_; (with_reducible refine (log_Since.calls a0_0 a0_1 _ _ l0_2 a0_1 t126 t129 t130 _ ?side1 ?side2 A33.out).mono ?_); (case side1 => repeat (first | exact (Kd.C_below HR0_2.out HB.out) | (with_reducible refine Kd.C_alloc ?_ _) | (with_reducible refine Kd.C_drewN ?_ _) | (with_reducible refine Kd.C_drew ?_))); (case side2 => exact HC0_2.out); rintro e w39 ⟨v127, rfl, ho0, hb⟩; refine ⟨_, rfl, ?_⟩; have n0_ := Aside0.mk (Kd.R_elder' (by (with_reducible repeat (first | apply Kd.R_alloc | apply Kd.R_drewN | apply Kd.R_drew)); exact HO_5.out) (Kd.R_base ho0) hb); have n1_ := Aside0.mk (Kd.R_lower (Kd.R_new' ho0 (Kd.R_lt (by (with_reducible repeat (first | apply Kd.R_alloc | apply Kd.R_drewN | apply Kd.R_drew)); exact HO_5.out))) (below_size (by repeat (first | (with_reducible first | exact HB.out | apply below_alloc | apply pw_below_drewN | apply below_drew1 | refine below_set ?_ GE109.out) | exact HB.out)))); have n2_ := Aside0.mk (blk_below (g := gb109) (o := .cells #[.int .i64 a0_0, .int .u64 a0_1, .slice A0_2 l0_2.length c0_2] 25 (0, 0)) (by (with_reducible repeat (first | refine blk_drewN ?_ _ | refine blk_drew ?_ | refine blk_alloc ?_ _)); exact BK109.out) hb); have n3_ := Aside0.mk (below_step (by repeat (first | (with_reducible first | exact HB.out | apply below_alloc | apply pw_below_drewN | apply below_drew1 | refine below_set ?_ GE109.out) | exact HB.out)) hb); clear HO_5; clear BK109; clear HB; have HO_5 := n0_; have HO128 := n1_; have BK109 := n2_; have HB := n3_; clear n0_ n1_ n2_ n3_; (try clear hb); (try clear hb2); (try clear hk); (try clear hi); (try clear ho0); have hcz40_0 : w39.cell? ⟨gb109, 0, none⟩ = some (.int .i64 a0_0) := (blk_cell BK109.out 0).trans rfl; have hcz40_1 : w39.cell? ⟨gb109, 1, none⟩ = some (.int .u64 a0_1) := (blk_cell BK109.out 1).trans rfl; have hcz40_2 : w39.cell? ⟨gb109, 2, none⟩ = some (.slice A0_2 l0_2.length c0_2) := (blk_cell BK109.out 2).trans rfl; have hfz40_0 := blk_frozen BK109.out 0; have hfz40_1 := blk_frozen BK109.out 1; have hfz40_2 := blk_frozen BK109.out 2; obtain ⟨Ao41, co41, eo41⟩ := Kd.R_slice HO_5.out; subst eo41; obtain ⟨Ao42, co42, eo42⟩ := Kd.R_slice HO128.out; subst eo42))
            go_ret
            exact ⟨by first | rfl | (simp [errW_none, errW_some] <;> rfl) | (simp only [← hji21]; first | rfl | (simp [errW_none, errW_some] <;> rfl)) | (simp [*, errW_none, errW_some] <;> rfl), by repeat (first | (with_reducible first | exact HB.out | apply below_alloc | apply pw_below_drewN | apply below_drew1 | refine below_set ?_ GE109.out) | exact HB.out)⟩
           ·rw [if_neg c37] at H
            have c37b0 : ((t126.length : Int) == 0) = false := beq_eq_false_iff_ne.mpr c37
            have c37b1 : ((t126.length : Int) != 0) = true := bne_iff_ne.mpr c37
            have c37b2 : ¬ (t126 = []) := fun h_ => c37 (by rw [h_]; rfl)
            exact absurd ((Option.some.inj H).trans HRr.out) (by simp)
          ·rw [if_neg c36] at H
           have c36b0 : (t130 == 0) = false := beq_eq_false_iff_ne.mpr c36
           have c36b1 : (t130 != 0) = true := bne_iff_ne.mpr c36
           exact absurd ((Option.some.inj H).trans HRr.out) (by simp)
         ·rw [if_neg c35] at H
          have c35b0 : ((IntKind.u64.wrap ((IntKind.u64.wrap ((t111.length : Int))) + t114)) == 0) = false := beq_eq_false_iff_ne.mpr c35
          have c35b1 : ((IntKind.u64.wrap ((IntKind.u64.wrap ((t111.length : Int))) + t114)) != 0) = true := bne_iff_ne.mpr c35
          exact absurd ((Option.some.inj H).trans HRr.out) (by simp)
        ·rw [if_neg c34] at H
         have c34b0 : (x8_1 == (l0_2.length : Int)) = false := beq_eq_false_iff_ne.mpr c34
         have c34b1 : (x8_1 != (l0_2.length : Int)) = true := bne_iff_ne.mpr c34
         exact absurd ((Option.some.inj H).trans HRr.out) (by simp)
   ·rw [if_neg c10] at H
    have c10b0 : (t115 == 0) = false := beq_eq_false_iff_ne.mpr c10
    have c10b1 : (t115 != 0) = true := bne_iff_ne.mpr c10
    replace H := Option.bind_eq_some_iff.mp H
    obtain ⟨t116, A430, H⟩ := H
    replace H : (some (t116 != 0)) = some r := H
    have A43 := Aside0.mk A430
    clear A430
    obtain rfl := Option.some.inj H
    go_enter Tryd.func8, Tryd.ntmps8
    go_wp2_with (first | ((with_reducible refine gate_dst (N := 2) rfl ?_); (try (refine gate_guard (by rfl) ?_; dsimp only)); refine box_event ?hg (N := 2) ?hd (cs := #[.int .i64 a0_0, .int .u64 a0_1, .slice A0_2 l0_2.length c0_2]) (t := 25) ?hr ?_; (case hd => rfl); (case hg => rfl); (case hr => first | (go_simp; done) | (go_simp; rfl)); intro gb109 hg w44 hbox hb; have n0_ := Aside0.mk (below_step (by repeat (first | (with_reducible first | exact HB.out | apply below_alloc | apply pw_below_drewN | apply below_drew1) | exact HB.out)) hb); have n1_ := Aside0.mk (hbox); have n2_ := Aside0.mk ((by rw [hg]; exact (below_size (by repeat (first | (with_reducible first | exact HB.out | apply below_alloc | apply pw_below_drewN | apply below_drew1) | exact HB.out))) : w.heap.size ≤ gb109)); have n3_ := Aside0.mk ((by rw [hg]; exact (below_size (by repeat (first | (with_reducible first | exact HB.out | apply below_alloc | apply pw_below_drewN | apply below_drew1) | exact HB.out))) : w.heap.size ≤ gb109)); clear HB; have HB := n0_; have BK109 := n1_; have GW109 := n2_; have GE109 := n3_; clear n0_ n1_ n2_ n3_; clear hb hbox hg) | ((with_reducible refine gate_callee (f := 9) rfl ?_); refine goesL_ (some 16) rfl rfl Tryd.func9 (by kernel_rfl) rfl #[] rfl (by (try simp only [List.map_toArray, List.map_cons, List.map_nil]); first | done | rfl | (simp only [List.length_drop, List.length_take]; rfl)) ?_; (with_reducible refine (wicketgatelaw27_wakes.calls  true _ A3.out).mono ?_); rintro e w45 ⟨rfl, hb⟩; refine ⟨_, rfl, ?_⟩; have n0_ := Aside0.mk (blk_below (g := gb109) (o := .cells #[.int .i64 a0_0, .int .u64 a0_1, .slice A0_2 l0_2.length c0_2] 25 (0, 0)) (by (with_reducible repeat (first | refine blk_drewN ?_ _ | refine blk_drew ?_ | refine blk_alloc ?_ _)); exact BK109.out) hb); have n1_ := Aside0.mk (below_step (by repeat (first | (with_reducible first | exact HB.out | apply below_alloc | apply pw_below_drewN | apply below_drew1 | refine below_set ?_ GE109.out) | exact HB.out)) hb); clear BK109; clear HB; have BK109 := n0_; have HB := n1_; clear n0_ n1_; (try clear hb); (try clear hb2); (try clear hk); (try clear hi); have hcz46_0 : w45.cell? ⟨gb109, 0, none⟩ = some (.int .i64 a0_0) := (blk_cell BK109.out 0).trans rfl; have hcz46_1 : w45.cell? ⟨gb109, 1, none⟩ = some (.int .u64 a0_1) := (blk_cell BK109.out 1).trans rfl; have hcz46_2 : w45.cell? ⟨gb109, 2, none⟩ = some (.slice A0_2 l0_2.length c0_2) := (blk_cell BK109.out 2).trans rfl; have hfz46_0 := blk_frozen BK109.out 0; have hfz46_1 := blk_frozen BK109.out 1; have hfz46_2 := blk_frozen BK109.out 2) | ((with_reducible refine gate_callee (f := 22) rfl ?_); refine goesL_ (some 25) rfl rfl Tryd.func22 (by kernel_rfl) rfl #[.agg #[.int .i64 a0_0, .int .u64 a0_1, .slice A0_2 l0_2.length c0_2], .int .u64 a1] rfl (by (try simp only [List.map_toArray, List.map_cons, List.map_nil]); first | done | rfl | (simp only [List.length_drop, List.length_take]; rfl)) ?_; (with_reducible refine (log_Since.calls a0_0 a0_1 _ _ l0_2 a1 t111 t114 t115 _ ?side1 ?side2 A9.out).mono ?_); (case side1 => repeat (first | exact (Kd.C_below HR0_2.out HB.out) | (with_reducible refine Kd.C_alloc ?_ _) | (with_reducible refine Kd.C_drewN ?_ _) | (with_reducible refine Kd.C_drew ?_))); (case side2 => exact HC0_2.out); rintro e w47 ⟨v112, rfl, ho0, hb⟩; refine ⟨_, rfl, ?_⟩; have n0_ := Aside0.mk (Kd.R_lower ho0 (below_size (by repeat (first | (with_reducible first | exact HB.out | apply below_alloc | apply pw_below_drewN | apply below_drew1 | refine below_set ?_ GE109.out) | exact HB.out)))); have n1_ := Aside0.mk (blk_below (g := gb109) (o := .cells #[.int .i64 a0_0, .int .u64 a0_1, .slice A0_2 l0_2.length c0_2] 25 (0, 0)) (by (with_reducible repeat (first | refine blk_drewN ?_ _ | refine blk_drew ?_ | refine blk_alloc ?_ _)); exact BK109.out) hb); have n2_ := Aside0.mk (below_step (by repeat (first | (with_reducible first | exact HB.out | apply below_alloc | apply pw_below_drewN | apply below_drew1 | refine below_set ?_ GE109.out) | exact HB.out)) hb); clear BK109; clear HB; have HO113 := n0_; have BK109 := n1_; have HB := n2_; clear n0_ n1_ n2_; (try clear hb); (try clear hb2); (try clear hk); (try clear hi); (try clear ho0); have hcz48_0 : w47.cell? ⟨gb109, 0, none⟩ = some (.int .i64 a0_0) := (blk_cell BK109.out 0).trans rfl; have hcz48_1 : w47.cell? ⟨gb109, 1, none⟩ = some (.int .u64 a0_1) := (blk_cell BK109.out 1).trans rfl; have hcz48_2 : w47.cell? ⟨gb109, 2, none⟩ = some (.slice A0_2 l0_2.length c0_2) := (blk_cell BK109.out 2).trans rfl; have hfz48_0 := blk_frozen BK109.out 0; have hfz48_1 := blk_frozen BK109.out 1; have hfz48_2 := blk_frozen BK109.out 2) | ((with_reducible refine gate_callee (f := 16) rfl ?_); refine goesL_ (some 32) rfl rfl Tryd.func16 (by kernel_rfl) rfl #[.agg #[.int .i64 a0_0, .int .u64 a0_1, .slice A0_2 l0_2.length c0_2]] rfl (by (try simp only [List.map_toArray, List.map_cons, List.map_nil]); first | done | rfl | (simp only [List.length_drop, List.length_take]; rfl)) ?_; (with_reducible refine (log_Check.calls a0_0 a0_1 _ _ l0_2 t116 _ ?side1 ?side2 A43.out).mono ?_); (case side1 => repeat (first | exact (Kd.C_below HR0_2.out HB.out) | (with_reducible refine Kd.C_alloc ?_ _) | (with_reducible refine Kd.C_drewN ?_ _) | (with_reducible refine Kd.C_drew ?_))); (case side2 => exact HC0_2.out); rintro e w49 ⟨rfl, hb⟩; refine ⟨_, rfl, ?_⟩; have n0_ := Aside0.mk (Kd.R_below (by (with_reducible repeat (first | apply Kd.R_alloc | apply Kd.R_drewN | apply Kd.R_drew)); exact HO113.out) hb); have n1_ := Aside0.mk (blk_below (g := gb109) (o := .cells #[.int .i64 a0_0, .int .u64 a0_1, .slice A0_2 l0_2.length c0_2] 25 (0, 0)) (by (with_reducible repeat (first | refine blk_drewN ?_ _ | refine blk_drew ?_ | refine blk_alloc ?_ _)); exact BK109.out) hb); have n2_ := Aside0.mk (below_step (by repeat (first | (with_reducible first | exact HB.out | apply below_alloc | apply pw_below_drewN | apply below_drew1 | refine below_set ?_ GE109.out) | exact HB.out)) hb); clear HO113; clear BK109; clear HB; have HO113 := n0_; have BK109 := n1_; have HB := n2_; clear n0_ n1_ n2_; (try clear hb); (try clear hb2); (try clear hk); (try clear hi)))
    go_ret
    exact ⟨by first | rfl | (simp [errW_none, errW_some] <;> rfl) | (simp [*, errW_none, errW_some] <;> rfl), by repeat (first | (with_reducible first | exact HB.out | apply below_alloc | apply pw_below_drewN | apply below_drew1 | refine below_set ?_ GE109.out) | exact HB.out)⟩
 ·replace c4 := Bool.eq_false_iff.mpr c4
  subst c4
  have H1 : (some false) = some r := by rw [if_neg (show ¬ (false = true) by decide)] at H; exact H
  clear H
  have H := H1
  clear H1
  exact absurd ((Option.some.inj H).trans HRr.out) (by simp)

/-! ### wicketgatelaw27_copied: function 10 -/
def wicketgatelaw27_copied.f (a0_0 : Int) (a0_1 : Int) (l0_2 : List (S31)) : Option (Int × Int × List (S31)) := if l0_2.length ≤ 300 then some ((a0_0, a0_1, l0_2)) else none
theorem wicketgatelaw27_copied.calls (a0_0 : Int) (a0_1 : Int) (A0_2 : Option Addr) (c0_2 : Nat) (l0_2 : List (S31)) (r1 : Int) (r2 : Int) (r3 : List (S31)) (w : World) (hr0_2 : Kd.C k31 w A0_2 l0_2.length l0_2) (hc0_2 : l0_2.length ≤ c0_2) (h : wicketgatelaw27_copied.f a0_0 a0_1 l0_2 = some (r1, r2, r3)) :
  Calls Tryd.prog 10 #[.agg #[.int .i64 a0_0, .int .u64 a0_1, .slice A0_2 l0_2.length c0_2]] w fun e w' => ∃ v2_ : Value, e = .returned (.agg #[.int .i64 r1, .int .u64 r2, v2_]) ∧ Kd.R k31 31 w' w.heap.size (fun _ => True) v2_ r3 ∧ Below w.heap.size w w' := by
 unfold wicketgatelaw27_copied.f at h
 split at h
 ·rename_i hd
  exact PS.wicketgatelaw27_copied.calls  a0_0 a0_1 A0_2 c0_2 l0_2 r1 r2 r3 w hr0_2 hc0_2 ((copied_f a0_0 a0_1 l0_2 (by omega)).trans h)
 ·cases h

-- NOT PRINTED: function 30 (wicketgateref21_Of)

/-! ### wicketgateref27_Right: function 19 -/
def wicketgateref27_Right.f (a0_0 : Int) (a0_1 : Int) (l0_2 : List (S31)) : Option (Bool) := if Wide a0_0 a0_1 l0_2 then some (decide (Rok a0_0 a0_1 l0_2)) else none
theorem wicketgateref27_Right.calls (a0_0 : Int) (a0_1 : Int) (A0_2 : Option Addr) (c0_2 : Nat) (l0_2 : List (S31)) (r : Bool) (w : World) (hr0_2 : Kd.C k31 w A0_2 l0_2.length l0_2) (hc0_2 : l0_2.length ≤ c0_2) (h : wicketgateref27_Right.f a0_0 a0_1 l0_2 = some r) :
  Calls Tryd.prog 19 #[.agg #[.int .i64 a0_0, .int .u64 a0_1, .slice A0_2 l0_2.length c0_2]] w fun e w' => e = .returned (.bool r) ∧ Below w.heap.size w w' := by
 unfold wicketgateref27_Right.f at h
 split at h
 ·rename_i hd
  exact PS.wicketgateref27_Right.calls 1000 a0_0 a0_1 A0_2 c0_2 l0_2 r w hr0_2 hc0_2 ((right_f 1000 a0_0 a0_1 l0_2 hd.1 hd.2.1 hd.2.2.1 (by have := hd.2.2.2; omega) (by have := hd.2.2.2; omega)).trans h)
 ·cases h

/-! ### wicketgateref27_Since: function 24 -/
def wicketgateref27_Since.f (a0_0 : Int) (a0_1 : Int) (l0_2 : List (S31)) (a1 : Int) : Option (List (S31) × Int) := if l0_2.length ≤ 300 ∧ 0 ≤ a1 ∧ (1 ≤ a0_1 ∧ a0_1 ≤ 4611686018427387904 ∧ (l0_2.length : Int) ≤ a0_1 - 1) then some ((fromL a1 l0_2, goneR (a0_1 - 1 - l0_2.length) a1)) else none
theorem wicketgateref27_Since.calls (a0_0 : Int) (a0_1 : Int) (A0_2 : Option Addr) (c0_2 : Nat) (l0_2 : List (S31)) (a1 : Int) (r1 : List (S31)) (r2 : Int) (w : World) (hr0_2 : Kd.C k31 w A0_2 l0_2.length l0_2) (hc0_2 : l0_2.length ≤ c0_2) (h : wicketgateref27_Since.f a0_0 a0_1 l0_2 a1 = some (r1, r2)) :
  Calls Tryd.prog 24 #[.agg #[.int .i64 a0_0, .int .u64 a0_1, .slice A0_2 l0_2.length c0_2], .int .u64 a1] w fun e w' => ∃ v0_ : Value, e = .returned (.tuple #[v0_, .int .u64 r2]) ∧ Kd.R k31 31 w' w.heap.size (fun _ => True) v0_ r1 ∧ Below w.heap.size w w' := by
 unfold wicketgateref27_Since.f at h
 split at h
 ·rename_i hd
  exact PS.wicketgateref27_Since.calls 1000 a0_0 a0_1 A0_2 c0_2 l0_2 a1 r1 r2 w hr0_2 hc0_2 ((rsince_f 1000 a1 a0_0 a0_1 l0_2 (by have := hd.1; omega) hd.2.1 hd.2.2 (by have := hd.1; omega)).trans h)
 ·cases h

/-! ### wicketgateref27_SameLines: function 25 -/
def wicketgateref27_SameLines.f (l0 : List (S31)) (l1 : List (S31)) : Option (Bool) := if l0 = l1 ∧ l0.length ≤ 300 then some (true) else none
theorem wicketgateref27_SameLines.calls (A0 : Option Addr) (c0 : Nat) (l0 : List (S31)) (A1 : Option Addr) (c1 : Nat) (l1 : List (S31)) (r : Bool) (w : World) (hr0 : Kd.C k31 w A0 l0.length l0) (hc0 : l0.length ≤ c0) (hr1 : Kd.C k31 w A1 l1.length l1) (hc1 : l1.length ≤ c1) (h : wicketgateref27_SameLines.f l0 l1 = some r) :
  Calls Tryd.prog 25 #[.slice A0 l0.length c0, .slice A1 l1.length c1] w fun e w' => e = .returned (.bool r) ∧ Drawn0 w w' := by
 unfold wicketgateref27_SameLines.f at h
 split at h
 ·rename_i hd
  exact PS.wicketgateref27_SameLines.calls 1000 A0 c0 l0 A1 c1 l1 r w hr0 hc0 hr1 hc1 (((show PS.wicketgateref27_SameLines.f 1000 l0 l1 = some true by obtain ⟨rfl, hl⟩ := hd; exact same2_f 1000 l0 (by omega) (by omega))).trans h)
 ·cases h

/-! ### wicketgatelaw27_LogReads: function 7 -/
def wicketgatelaw27_LogReads.l0 : Nat → Int → List (S31) → Int → Int → List (S31) → Int → Int → Int → List (S31) → Int → List (S31) → List (S31) → Int → Int → Int → Int → List (S31) → Option (Bool)
 | 0, _, _, _, _, _, _, _, _, _, _, _, _, _, _, _, _, _ => none
 | k + 1, x2, x7, x8, x9, x10, x11, x12, x13, x14, x15, x16, x84, x85, x86, x132000, x132001, x132002 => if x86 < x85 then (if 0 ≤ x86 then (if x86 < (x84.length : Int) then (if ((rd_T31 x84 x86).f1) = x2 then (if x16.length < 3518437208883 then (wicketgatelaw27_LogReads.l0 k x2 x7 x8 x9 x10 x11 x12 x13 x14 x15 (x16 ++ [(⟨(rd_T31 x84 x86).f0, (rd_T31 x84 x86).f1, (rd_T31 x84 x86).f2, (rd_T31 x84 x86).f3, (⟨(rd_T31 x84 x86).f4.f0, (rd_T31 x84 x86).f4.f1⟩ : S29)⟩ : S31)]) x84 x85 (wrap64 (x86 + 1)) x132000 x132001 x132002) else (none)) else (wicketgatelaw27_LogReads.l0 k x2 x7 x8 x9 x10 x11 x12 x13 x14 x15 x16 x84 x85 (wrap64 (x86 + 1)) x132000 x132001 x132002)) else (none)) else (none)) else (if x9 = 0 then (if x11 = 0 then (if x13 = 0 then ((wicketgateref27_SameLines.f x7 x14).bind fun t169 => (if t169 = true then (if x8 = x15 then ((wicketgateref27_SameLines.f x10 x16).bind fun t170 => (if t170 = true then (some (x12 == (IntKind.u64.wrap ((IntKind.u64.wrap (x132001 - 1)) - (IntKind.u64.wrap ((x132002.length : Int))))))) else (some false))) else (some false)) else (some false))) else (some false)) else (some false)) else (some false))
def wicketgatelaw27_LogReads.f (k : Nat) (a0_0 : Int) (a0_1 : Int) (l0_2 : List (S31)) (a1 : Int) (a2 : Int) : Option (Bool) := (wicketgatelaw27_wakes.f).bind fun t132 => (if t132 = true then (if (l0_2.length : Int) > 200 then (some true) else ((wicketgatelaw27_copied.f a0_0 a0_1 l0_2).bind fun bt133 => ((log_Since.f bt133.1 bt133.2.1 bt133.2.2 a1).bind fun bt138 => ((wicketgatelaw27_copied.f a0_0 a0_1 l0_2).bind fun bt143 => ((log_Of.f bt143.1 bt143.2.1 bt143.2.2 a2).bind fun bt148 => ((wicketgatelaw27_copied.f a0_0 a0_1 l0_2).bind fun bt152 => ((log_Dropped.f bt152.1 bt152.2.1 bt152.2.2).bind fun bt157 => ((wicketgateref27_Right.f a0_0 a0_1 l0_2).bind fun t159 => (if t159 = true then ((wicketgateref27_Since.f a0_0 a0_1 l0_2 a1).bind fun bt160 => (wicketgatelaw27_LogReads.l0 k a2 bt138.1 bt138.2.1 bt138.2.2 bt148.1 bt148.2 bt157.1 bt157.2 bt160.1 bt160.2 ([] : List (S31)) l0_2 (l0_2.length : Int) 0 a0_0 a0_1 l0_2)) else (if (bt138.1.length : Int) = 0 then (if bt138.2.1 = 0 then (if bt138.2.2 = 370 then (if (bt148.1.length : Int) = 0 then (if bt148.2 = 370 then (if bt157.1 = 0 then (some (bt157.2 == 370)) else (some false)) else (some false)) else (some false)) else (some false)) else (some false)) else (some false))))))))))) else (some false))
theorem wicketgatelaw27_LogReads.mono_l : ∀ k, (∀ y0 y1 y2 y3 y4 y5 y6 y7 y8 y9 y10 y11 y12 y13 y14 y15 y16, LeO (wicketgatelaw27_LogReads.l0 k y0 y1 y2 y3 y4 y5 y6 y7 y8 y9 y10 y11 y12 y13 y14 y15 y16) (wicketgatelaw27_LogReads.l0 (k + 1) y0 y1 y2 y3 y4 y5 y6 y7 y8 y9 y10 y11 y12 y13 y14 y15 y16))
 | 0 => fun _ _ _ _ _ _ _ _ _ _ _ _ _ _ _ _ _ r h => by simp [wicketgatelaw27_LogReads.l0] at h
 | k + 1 => by
  have ih0 := wicketgatelaw27_LogReads.mono_l k
  ·intro y0 y1 y2 y3 y4 y5 y6 y7 y8 y9 y10 y11 y12 y13 y14 y15 y16
   unfold wicketgatelaw27_LogReads.l0
   repeat' first
   | (with_reducible exact ih0 _ _ _ _ _ _ _ _ _ _ _ _ _ _ _ _ _)
   | (with_reducible exact LeO.refl _)
   | (with_reducible exact LeO.none _)
   | (with_reducible refine LeO.ite ?_ ?_)
   | (with_reducible refine LeO.bind ?_ (fun _ => ?_))
   | exact ih0 _ _ _ _ _ _ _ _ _ _ _ _ _ _ _ _ _
   | exact LeO.none _
   | refine LeO.ite ?_ ?_
   | refine LeO.bind ?_ (fun _ => ?_)
theorem wicketgatelaw27_LogReads.mono : ∀ a0 a1 a2 a3 a4 k, LeO (wicketgatelaw27_LogReads.f k a0 a1 a2 a3 a4) (wicketgatelaw27_LogReads.f (k + 1) a0 a1 a2 a3 a4) := by
 intro a0 a1 a2 a3 a4 k
 have ih0 := wicketgatelaw27_LogReads.mono_l k
 unfold wicketgatelaw27_LogReads.f
 repeat' first
   | (with_reducible exact ih0 _ _ _ _ _ _ _ _ _ _ _ _ _ _ _ _ _)
   | (with_reducible exact LeO.refl _)
   | (with_reducible exact LeO.none _)
   | (with_reducible refine LeO.ite ?_ ?_)
   | (with_reducible refine LeO.bind ?_ (fun _ => ?_))
   | exact ih0 _ _ _ _ _ _ _ _ _ _ _ _ _ _ _ _ _
   | exact LeO.none _
   | refine LeO.ite ?_ ?_
   | refine LeO.bind ?_ (fun _ => ?_)
set_option maxHeartbeats 8000000 in
set_option maxRecDepth 100000 in
theorem wicketgatelaw27_LogReads.calls (k : Nat) (a0_0 : Int) (a0_1 : Int) (A0_2 : Option Addr) (c0_2 : Nat) (l0_2 : List (S31)) (a1 : Int) (a2 : Int) (r : Bool) (w : World) (hr0_2 : Kd.C k31 w A0_2 l0_2.length l0_2) (hc0_2 : l0_2.length ≤ c0_2) (h : wicketgatelaw27_LogReads.f k a0_0 a0_1 l0_2 a1 a2 = some r) (hr_ : r = true := by rfl) (hT0 : Go.Proofs.YtcpabgijmknldaaDoor.PE.L.Tab w := by repeat (first | (with_reducible exact Aside0.out HT) | (with_reducible exact Go.Proofs.YtcpabgijmknldaaDoor.PE.L.Tab.below (Aside0.out HT) (Aside0.out (by assumption))) | (with_reducible refine Go.Proofs.YtcpabgijmknldaaDoor.PE.L.Tab.alloc ?_ _) | (with_reducible refine Go.Proofs.YtcpabgijmknldaaDoor.PE.L.Tab.drewN ?_ _) | (with_reducible refine Go.Proofs.YtcpabgijmknldaaDoor.PE.L.Tab.drew ?_) | (with_reducible refine Go.Proofs.YtcpabgijmknldaaDoor.PE.L.Tab.set ?_ HT (by assumption) _))) :
  Calls Tryd.prog 7 #[.agg #[.int .i64 a0_0, .int .u64 a0_1, .slice A0_2 l0_2.length c0_2], .int .u64 a1, .int .i64 a2] w fun e w' => e = .returned (.bool r) ∧ Below w.heap.size w w' := by
 have HT := Aside0.mk hT0
 clear hT0
 have HRr := Aside0.mk hr_
 clear hr_
 have hu25 := Tryd.underlying25
 have hu31 := Tryd.underlying31
 have HR0_2 := Aside0.mk hr0_2
 have HC0_2 := Aside0.mk hc0_2
 clear hr0_2 hc0_2
 have HB := Aside0.mk (Below.refl w.heap.size w)
 have H : ((wicketgatelaw27_wakes.f).bind fun t132 => (if t132 = true then (if (l0_2.length : Int) > 200 then (some true) else ((wicketgatelaw27_copied.f a0_0 a0_1 l0_2).bind fun bt133 => ((log_Since.f bt133.1 bt133.2.1 bt133.2.2 a1).bind fun bt138 => ((wicketgatelaw27_copied.f a0_0 a0_1 l0_2).bind fun bt143 => ((log_Of.f bt143.1 bt143.2.1 bt143.2.2 a2).bind fun bt148 => ((wicketgatelaw27_copied.f a0_0 a0_1 l0_2).bind fun bt152 => ((log_Dropped.f bt152.1 bt152.2.1 bt152.2.2).bind fun bt157 => ((wicketgateref27_Right.f a0_0 a0_1 l0_2).bind fun t159 => (if t159 = true then ((wicketgateref27_Since.f a0_0 a0_1 l0_2 a1).bind fun bt160 => (wicketgatelaw27_LogReads.l0 k a2 bt138.1 bt138.2.1 bt138.2.2 bt148.1 bt148.2 bt157.1 bt157.2 bt160.1 bt160.2 ([] : List (S31)) l0_2 (l0_2.length : Int) 0 a0_0 a0_1 l0_2)) else (if (bt138.1.length : Int) = 0 then (if bt138.2.1 = 0 then (if bt138.2.2 = 370 then (if (bt148.1.length : Int) = 0 then (if bt148.2 = 370 then (if bt157.1 = 0 then (some (bt157.2 == 370)) else (some false)) else (some false)) else (some false)) else (some false)) else (some false)) else (some false))))))))))) else (some false))) = some r := h
 clear h
 replace H := Option.bind_eq_some_iff.mp H
 obtain ⟨t132, A40, H⟩ := H
 replace H : (if t132 = true then (if (l0_2.length : Int) > 200 then (some true) else ((wicketgatelaw27_copied.f a0_0 a0_1 l0_2).bind fun bt133 => ((log_Since.f bt133.1 bt133.2.1 bt133.2.2 a1).bind fun bt138 => ((wicketgatelaw27_copied.f a0_0 a0_1 l0_2).bind fun bt143 => ((log_Of.f bt143.1 bt143.2.1 bt143.2.2 a2).bind fun bt148 => ((wicketgatelaw27_copied.f a0_0 a0_1 l0_2).bind fun bt152 => ((log_Dropped.f bt152.1 bt152.2.1 bt152.2.2).bind fun bt157 => ((wicketgateref27_Right.f a0_0 a0_1 l0_2).bind fun t159 => (if t159 = true then ((wicketgateref27_Since.f a0_0 a0_1 l0_2 a1).bind fun bt160 => (wicketgatelaw27_LogReads.l0 k a2 bt138.1 bt138.2.1 bt138.2.2 bt148.1 bt148.2 bt157.1 bt157.2 bt160.1 bt160.2 ([] : List (S31)) l0_2 (l0_2.length : Int) 0 a0_0 a0_1 l0_2)) else (if (bt138.1.length : Int) = 0 then (if bt138.2.1 = 0 then (if bt138.2.2 = 370 then (if (bt148.1.length : Int) = 0 then (if bt148.2 = 370 then (if bt157.1 = 0 then (some (bt157.2 == 370)) else (some false)) else (some false)) else (some false)) else (some false)) else (some false)) else (some false))))))))))) else (some false)) = some r := H
 have A4 := Aside0.mk A40
 clear A40
 by_cases c5 : t132 = true
 ·subst c5
  have H1 : (if (l0_2.length : Int) > 200 then (some true) else ((wicketgatelaw27_copied.f a0_0 a0_1 l0_2).bind fun bt133 => ((log_Since.f bt133.1 bt133.2.1 bt133.2.2 a1).bind fun bt138 => ((wicketgatelaw27_copied.f a0_0 a0_1 l0_2).bind fun bt143 => ((log_Of.f bt143.1 bt143.2.1 bt143.2.2 a2).bind fun bt148 => ((wicketgatelaw27_copied.f a0_0 a0_1 l0_2).bind fun bt152 => ((log_Dropped.f bt152.1 bt152.2.1 bt152.2.2).bind fun bt157 => ((wicketgateref27_Right.f a0_0 a0_1 l0_2).bind fun t159 => (if t159 = true then ((wicketgateref27_Since.f a0_0 a0_1 l0_2 a1).bind fun bt160 => (wicketgatelaw27_LogReads.l0 k a2 bt138.1 bt138.2.1 bt138.2.2 bt148.1 bt148.2 bt157.1 bt157.2 bt160.1 bt160.2 ([] : List (S31)) l0_2 (l0_2.length : Int) 0 a0_0 a0_1 l0_2)) else (if (bt138.1.length : Int) = 0 then (if bt138.2.1 = 0 then (if bt138.2.2 = 370 then (if (bt148.1.length : Int) = 0 then (if bt148.2 = 370 then (if bt157.1 = 0 then (some (bt157.2 == 370)) else (some false)) else (some false)) else (some false)) else (some false)) else (some false)) else (some false))))))))))) = some r := by rw [if_pos rfl] at H; exact H
  clear H
  have H := H1
  clear H1
  by_cases c6 : (l0_2.length : Int) > 200
  ·rw [if_pos c6] at H
   have c6b0 : decide (200 < (l0_2.length : Int)) = true := decide_eq_true c6
   have c6b1 : decide (200 < l0_2.length) = true := decide_eq_true (by omega)
   clear c6
   obtain rfl := Option.some.inj H
   go_enter Tryd.func7, Tryd.ntmps7
   go_wp2_with (first | ((with_reducible refine gate_dst (N := 3) rfl ?_); (try (refine gate_guard (by rfl) ?_; dsimp only)); refine box_event ?hg (N := 3) ?hd (cs := #[.int .i64 a0_0, .int .u64 a0_1, .slice A0_2 l0_2.length c0_2]) (t := 25) ?hr ?_; (case hd => rfl); (case hg => rfl); (case hr => first | (go_simp; done) | (go_simp; rfl)); intro gb131 hg w7 hbox hb; have n0_ := Aside0.mk (below_step (by repeat (first | (with_reducible first | exact HB.out | apply below_alloc | apply pw_below_drewN | apply below_drew1) | exact HB.out)) hb); have n1_ := Aside0.mk (hbox); have n2_ := Aside0.mk ((by rw [hg]; exact (below_size (by repeat (first | (with_reducible first | exact HB.out | apply below_alloc | apply pw_below_drewN | apply below_drew1) | exact HB.out))) : w.heap.size ≤ gb131)); have n3_ := Aside0.mk ((by rw [hg]; exact (below_size (by repeat (first | (with_reducible first | exact HB.out | apply below_alloc | apply pw_below_drewN | apply below_drew1) | exact HB.out))) : w.heap.size ≤ gb131)); clear HB; have HB := n0_; have BK131 := n1_; have GW131 := n2_; have GE131 := n3_; clear n0_ n1_ n2_ n3_; clear hb hbox hg) | ((with_reducible refine gate_callee (f := 9) rfl ?_); refine goesL_ (some 19) rfl rfl Tryd.func9 (by kernel_rfl) rfl #[] rfl (by (try simp only [List.map_toArray, List.map_cons, List.map_nil]); first | done | rfl | (simp only [List.length_drop, List.length_take]; rfl)) ?_; (with_reducible refine (wicketgatelaw27_wakes.calls  true _ A4.out).mono ?_); rintro e w8 ⟨rfl, hb⟩; refine ⟨_, rfl, ?_⟩; have n0_ := Aside0.mk (blk_below (g := gb131) (o := .cells #[.int .i64 a0_0, .int .u64 a0_1, .slice A0_2 l0_2.length c0_2] 25 (0, 0)) (by (with_reducible repeat (first | refine blk_drewN ?_ _ | refine blk_drew ?_ | refine blk_alloc ?_ _)); exact BK131.out) hb); have n1_ := Aside0.mk (below_step (by repeat (first | (with_reducible first | exact HB.out | apply below_alloc | apply pw_below_drewN | apply below_drew1 | refine below_set ?_ GE131.out) | exact HB.out)) hb); clear BK131; clear HB; have BK131 := n0_; have HB := n1_; clear n0_ n1_; (try clear hb); (try clear hb2); (try clear hk); (try clear hi); have hcz9_0 : w8.cell? ⟨gb131, 0, none⟩ = some (.int .i64 a0_0) := (blk_cell BK131.out 0).trans rfl; have hcz9_1 : w8.cell? ⟨gb131, 1, none⟩ = some (.int .u64 a0_1) := (blk_cell BK131.out 1).trans rfl; have hcz9_2 : w8.cell? ⟨gb131, 2, none⟩ = some (.slice A0_2 l0_2.length c0_2) := (blk_cell BK131.out 2).trans rfl; have hfz9_0 := blk_frozen BK131.out 0; have hfz9_1 := blk_frozen BK131.out 1; have hfz9_2 := blk_frozen BK131.out 2))
   go_ret
   exact ⟨by first | rfl | (simp [errW_none, errW_some] <;> rfl) | (simp [*, errW_none, errW_some] <;> rfl), by repeat (first | (with_reducible first | exact HB.out | apply below_alloc | apply pw_below_drewN | apply below_drew1 | refine below_set ?_ GE131.out) | exact HB.out)⟩
  ·rw [if_neg c6] at H
   have c6b0 : decide (200 < (l0_2.length : Int)) = false := decide_eq_false c6
   have c6b1 : decide (200 < l0_2.length) = false := decide_eq_false (by omega)
   clear c6
   replace H := Option.bind_eq_some_iff.mp H
   obtain ⟨⟨t133, t134, t135⟩, A100, H⟩ := H
   replace H : ((log_Since.f t133 t134 t135 a1).bind fun bt138 => ((wicketgatelaw27_copied.f a0_0 a0_1 l0_2).bind fun bt143 => ((log_Of.f bt143.1 bt143.2.1 bt143.2.2 a2).bind fun bt148 => ((wicketgatelaw27_copied.f a0_0 a0_1 l0_2).bind fun bt152 => ((log_Dropped.f bt152.1 bt152.2.1 bt152.2.2).bind fun bt157 => ((wicketgateref27_Right.f a0_0 a0_1 l0_2).bind fun t159 => (if t159 = true then ((wicketgateref27_Since.f a0_0 a0_1 l0_2 a1).bind fun bt160 => (wicketgatelaw27_LogReads.l0 k a2 bt138.1 bt138.2.1 bt138.2.2 bt148.1 bt148.2 bt157.1 bt157.2 bt160.1 bt160.2 ([] : List (S31)) l0_2 (l0_2.length : Int) 0 a0_0 a0_1 l0_2)) else (if (bt138.1.length : Int) = 0 then (if bt138.2.1 = 0 then (if bt138.2.2 = 370 then (if (bt148.1.length : Int) = 0 then (if bt148.2 = 370 then (if bt157.1 = 0 then (some (bt157.2 == 370)) else (some false)) else (some false)) else (some false)) else (some false)) else (some false)) else (some false))))))))) = some r := H
   have A10 := Aside0.mk A100
   clear A100
   replace H := Option.bind_eq_some_iff.mp H
   obtain ⟨⟨t138, t141, t142⟩, A110, H⟩ := H
   replace H : ((wicketgatelaw27_copied.f a0_0 a0_1 l0_2).bind fun bt143 => ((log_Of.f bt143.1 bt143.2.1 bt143.2.2 a2).bind fun bt148 => ((wicketgatelaw27_copied.f a0_0 a0_1 l0_2).bind fun bt152 => ((log_Dropped.f bt152.1 bt152.2.1 bt152.2.2).bind fun bt157 => ((wicketgateref27_Right.f a0_0 a0_1 l0_2).bind fun t159 => (if t159 = true then ((wicketgateref27_Since.f a0_0 a0_1 l0_2 a1).bind fun bt160 => (wicketgatelaw27_LogReads.l0 k a2 t138 t141 t142 bt148.1 bt148.2 bt157.1 bt157.2 bt160.1 bt160.2 ([] : List (S31)) l0_2 (l0_2.length : Int) 0 a0_0 a0_1 l0_2)) else (if (t138.length : Int) = 0 then (if t141 = 0 then (if t142 = 370 then (if (bt148.1.length : Int) = 0 then (if bt148.2 = 370 then (if bt157.1 = 0 then (some (bt157.2 == 370)) else (some false)) else (some false)) else (some false)) else (some false)) else (some false)) else (some false)))))))) = some r := H
   have A11 := Aside0.mk A110
   clear A110
   replace H := Option.bind_eq_some_iff.mp H
   obtain ⟨⟨t143, t144, t145⟩, A120, H⟩ := H
   replace H : ((log_Of.f t143 t144 t145 a2).bind fun bt148 => ((wicketgatelaw27_copied.f a0_0 a0_1 l0_2).bind fun bt152 => ((log_Dropped.f bt152.1 bt152.2.1 bt152.2.2).bind fun bt157 => ((wicketgateref27_Right.f a0_0 a0_1 l0_2).bind fun t159 => (if t159 = true then ((wicketgateref27_Since.f a0_0 a0_1 l0_2 a1).bind fun bt160 => (wicketgatelaw27_LogReads.l0 k a2 t138 t141 t142 bt148.1 bt148.2 bt157.1 bt157.2 bt160.1 bt160.2 ([] : List (S31)) l0_2 (l0_2.length : Int) 0 a0_0 a0_1 l0_2)) else (if (t138.length : Int) = 0 then (if t141 = 0 then (if t142 = 370 then (if (bt148.1.length : Int) = 0 then (if bt148.2 = 370 then (if bt157.1 = 0 then (some (bt157.2 == 370)) else (some false)) else (some false)) else (some false)) else (some false)) else (some false)) else (some false))))))) = some r := H
   have A12 := Aside0.mk A120
   clear A120
   replace H := Option.bind_eq_some_iff.mp H
   obtain ⟨⟨t148, t151⟩, A130, H⟩ := H
   replace H : ((wicketgatelaw27_copied.f a0_0 a0_1 l0_2).bind fun bt152 => ((log_Dropped.f bt152.1 bt152.2.1 bt152.2.2).bind fun bt157 => ((wicketgateref27_Right.f a0_0 a0_1 l0_2).bind fun t159 => (if t159 = true then ((wicketgateref27_Since.f a0_0 a0_1 l0_2 a1).bind fun bt160 => (wicketgatelaw27_LogReads.l0 k a2 t138 t141 t142 t148 t151 bt157.1 bt157.2 bt160.1 bt160.2 ([] : List (S31)) l0_2 (l0_2.length : Int) 0 a0_0 a0_1 l0_2)) else (if (t138.length : Int) = 0 then (if t141 = 0 then (if t142 = 370 then (if (t148.length : Int) = 0 then (if t151 = 370 then (if bt157.1 = 0 then (some (bt157.2 == 370)) else (some false)) else (some false)) else (some false)) else (some false)) else (some false)) else (some false)))))) = some r := H
   have A13 := Aside0.mk A130
   clear A130
   replace H := Option.bind_eq_some_iff.mp H
   obtain ⟨⟨t152, t153, t154⟩, A140, H⟩ := H
   replace H : ((log_Dropped.f t152 t153 t154).bind fun bt157 => ((wicketgateref27_Right.f a0_0 a0_1 l0_2).bind fun t159 => (if t159 = true then ((wicketgateref27_Since.f a0_0 a0_1 l0_2 a1).bind fun bt160 => (wicketgatelaw27_LogReads.l0 k a2 t138 t141 t142 t148 t151 bt157.1 bt157.2 bt160.1 bt160.2 ([] : List (S31)) l0_2 (l0_2.length : Int) 0 a0_0 a0_1 l0_2)) else (if (t138.length : Int) = 0 then (if t141 = 0 then (if t142 = 370 then (if (t148.length : Int) = 0 then (if t151 = 370 then (if bt157.1 = 0 then (some (bt157.2 == 370)) else (some false)) else (some false)) else (some false)) else (some false)) else (some false)) else (some false))))) = some r := H
   have A14 := Aside0.mk A140
   clear A140
   replace H := Option.bind_eq_some_iff.mp H
   obtain ⟨⟨t157, t158⟩, A150, H⟩ := H
   replace H : ((wicketgateref27_Right.f a0_0 a0_1 l0_2).bind fun t159 => (if t159 = true then ((wicketgateref27_Since.f a0_0 a0_1 l0_2 a1).bind fun bt160 => (wicketgatelaw27_LogReads.l0 k a2 t138 t141 t142 t148 t151 t157 t158 bt160.1 bt160.2 ([] : List (S31)) l0_2 (l0_2.length : Int) 0 a0_0 a0_1 l0_2)) else (if (t138.length : Int) = 0 then (if t141 = 0 then (if t142 = 370 then (if (t148.length : Int) = 0 then (if t151 = 370 then (if t157 = 0 then (some (t158 == 370)) else (some false)) else (some false)) else (some false)) else (some false)) else (some false)) else (some false)))) = some r := H
   have A15 := Aside0.mk A150
   clear A150
   replace H := Option.bind_eq_some_iff.mp H
   obtain ⟨t159, A160, H⟩ := H
   replace H : (if t159 = true then ((wicketgateref27_Since.f a0_0 a0_1 l0_2 a1).bind fun bt160 => (wicketgatelaw27_LogReads.l0 k a2 t138 t141 t142 t148 t151 t157 t158 bt160.1 bt160.2 ([] : List (S31)) l0_2 (l0_2.length : Int) 0 a0_0 a0_1 l0_2)) else (if (t138.length : Int) = 0 then (if t141 = 0 then (if t142 = 370 then (if (t148.length : Int) = 0 then (if t151 = 370 then (if t157 = 0 then (some (t158 == 370)) else (some false)) else (some false)) else (some false)) else (some false)) else (some false)) else (some false))) = some r := H
   have A16 := Aside0.mk A160
   clear A160
   by_cases c17 : t159 = true
   ·subst c17
    have H1 : ((wicketgateref27_Since.f a0_0 a0_1 l0_2 a1).bind fun bt160 => (wicketgatelaw27_LogReads.l0 k a2 t138 t141 t142 t148 t151 t157 t158 bt160.1 bt160.2 ([] : List (S31)) l0_2 (l0_2.length : Int) 0 a0_0 a0_1 l0_2)) = some r := by rw [if_pos rfl] at H; exact H
    clear H
    have H := H1
    clear H1
    replace H := Option.bind_eq_some_iff.mp H
    obtain ⟨⟨t160, t163⟩, A180, H⟩ := H
    replace H : (wicketgatelaw27_LogReads.l0 k a2 t138 t141 t142 t148 t151 t157 t158 t160 t163 ([] : List (S31)) l0_2 (l0_2.length : Int) 0 a0_0 a0_1 l0_2) = some r := H
    have A18 := Aside0.mk A180
    clear A180
    have H' := Aside0.mk H
    clear H
    go_enter Tryd.func7, Tryd.ntmps7
    go_wp2_with (first | ((with_reducible refine gate_dst (N := 3) rfl ?_); (try (refine gate_guard (by rfl) ?_; dsimp only)); refine box_event ?hg (N := 3) ?hd (cs := #[.int .i64 a0_0, .int .u64 a0_1, .slice A0_2 l0_2.length c0_2]) (t := 25) ?hr ?_; (case hd => rfl); (case hg => rfl); (case hr => first | (go_simp; done) | (go_simp; rfl)); intro gb131 hg w19 hbox hb; have n0_ := Aside0.mk (below_step (by repeat (first | (with_reducible first | exact HB.out | apply below_alloc | apply pw_below_drewN | apply below_drew1) | exact HB.out)) hb); have n1_ := Aside0.mk (hbox); have n2_ := Aside0.mk ((by rw [hg]; exact (below_size (by repeat (first | (with_reducible first | exact HB.out | apply below_alloc | apply pw_below_drewN | apply below_drew1) | exact HB.out))) : w.heap.size ≤ gb131)); have n3_ := Aside0.mk ((by rw [hg]; exact (below_size (by repeat (first | (with_reducible first | exact HB.out | apply below_alloc | apply pw_below_drewN | apply below_drew1) | exact HB.out))) : w.heap.size ≤ gb131)); clear HB; have HB := n0_; have BK131 := n1_; have GW131 := n2_; have GE131 := n3_; clear n0_ n1_ n2_ n3_; clear hb hbox hg) | ((with_reducible refine gate_callee (f := 9) rfl ?_); refine goesL_ (some 19) rfl rfl Tryd.func9 (by kernel_rfl) rfl #[] rfl (by (try simp only [List.map_toArray, List.map_cons, List.map_nil]); first | done | rfl | (simp only [List.length_drop, List.length_take]; rfl)) ?_; (with_reducible refine (wicketgatelaw27_wakes.calls  true _ A4.out).mono ?_); rintro e w20 ⟨rfl, hb⟩; refine ⟨_, rfl, ?_⟩; have n0_ := Aside0.mk (blk_below (g := gb131) (o := .cells #[.int .i64 a0_0, .int .u64 a0_1, .slice A0_2 l0_2.length c0_2] 25 (0, 0)) (by (with_reducible repeat (first | refine blk_drewN ?_ _ | refine blk_drew ?_ | refine blk_alloc ?_ _)); exact BK131.out) hb); have n1_ := Aside0.mk (below_step (by repeat (first | (with_reducible first | exact HB.out | apply below_alloc | apply pw_below_drewN | apply below_drew1 | refine below_set ?_ GE131.out) | exact HB.out)) hb); clear BK131; clear HB; have BK131 := n0_; have HB := n1_; clear n0_ n1_; (try clear hb); (try clear hb2); (try clear hk); (try clear hi); have hcz21_0 : w20.cell? ⟨gb131, 0, none⟩ = some (.int .i64 a0_0) := (blk_cell BK131.out 0).trans rfl; have hcz21_1 : w20.cell? ⟨gb131, 1, none⟩ = some (.int .u64 a0_1) := (blk_cell BK131.out 1).trans rfl; have hcz21_2 : w20.cell? ⟨gb131, 2, none⟩ = some (.slice A0_2 l0_2.length c0_2) := (blk_cell BK131.out 2).trans rfl; have hfz21_0 := blk_frozen BK131.out 0; have hfz21_1 := blk_frozen BK131.out 1; have hfz21_2 := blk_frozen BK131.out 2) | ((with_reducible refine gate_callee (f := 10) rfl ?_); refine goesL_ (some 27) rfl rfl Tryd.func10 (by kernel_rfl) rfl #[.agg #[.int .i64 a0_0, .int .u64 a0_1, .slice A0_2 l0_2.length c0_2]] rfl (by (try simp only [List.map_toArray, List.map_cons, List.map_nil]); first | done | rfl | (simp only [List.length_drop, List.length_take]; rfl)) ?_; (with_reducible refine (wicketgatelaw27_copied.calls a0_0 a0_1 _ _ l0_2 t133 t134 t135 _ ?side1 ?side2 A10.out).mono ?_); (case side1 => repeat (first | exact (Kd.C_below HR0_2.out HB.out) | (with_reducible refine Kd.C_alloc ?_ _) | (with_reducible refine Kd.C_drewN ?_ _) | (with_reducible refine Kd.C_drew ?_))); (case side2 => exact HC0_2.out); rintro e w22 ⟨v136, rfl, ho0, hb⟩; refine ⟨_, rfl, ?_⟩; have n0_ := Aside0.mk (Kd.R_lower ho0 (below_size (by repeat (first | (with_reducible first | exact HB.out | apply below_alloc | apply pw_below_drewN | apply below_drew1 | refine below_set ?_ GE131.out) | exact HB.out)))); have n1_ := Aside0.mk (blk_below (g := gb131) (o := .cells #[.int .i64 a0_0, .int .u64 a0_1, .slice A0_2 l0_2.length c0_2] 25 (0, 0)) (by (with_reducible repeat (first | refine blk_drewN ?_ _ | refine blk_drew ?_ | refine blk_alloc ?_ _)); exact BK131.out) hb); have n2_ := Aside0.mk (below_step (by repeat (first | (with_reducible first | exact HB.out | apply below_alloc | apply pw_below_drewN | apply below_drew1 | refine below_set ?_ GE131.out) | exact HB.out)) hb); clear BK131; clear HB; have HO137 := n0_; have BK131 := n1_; have HB := n2_; clear n0_ n1_ n2_; (try clear hb); (try clear hb2); (try clear hk); (try clear hi); (try clear ho0); obtain ⟨Ao23, co23, eo23⟩ := Kd.R_slice HO137.out; subst eo23) | ((with_reducible refine gate_callee (f := 22) rfl ?_); refine goesL_ (some 29) rfl rfl Tryd.func22 (by kernel_rfl) rfl #[.agg #[.int .i64 t133, .int .u64 t134, .slice Ao23 t135.length co23], .int .u64 a1] rfl (by (try simp only [List.map_toArray, List.map_cons, List.map_nil]); first | done | rfl | (simp only [List.length_drop, List.length_take]; rfl)) ?_; (with_reducible refine (log_Since.calls t133 t134 _ _ t135 a1 t138 t141 t142 _ ?side1 ?side2 A11.out).mono ?_); (case side1 => repeat (first | exact (Kd.R_reads' HO137.out).2.2 | (with_reducible refine Kd.C_alloc ?_ _) | (with_reducible refine Kd.C_drewN ?_ _) | (with_reducible refine Kd.C_drew ?_))); (case side2 => exact (Kd.R_reads' HO137.out).2.1); rintro e w24 ⟨v139, rfl, ho0, hb⟩; refine ⟨_, rfl, ?_⟩; have n0_ := Aside0.mk (Kd.R_elder' (by (with_reducible repeat (first | apply Kd.R_alloc | apply Kd.R_drewN | apply Kd.R_drew)); exact HO137.out) (Kd.R_base ho0) hb); have n1_ := Aside0.mk (Kd.R_lower (Kd.R_new' ho0 (Kd.R_lt (by (with_reducible repeat (first | apply Kd.R_alloc | apply Kd.R_drewN | apply Kd.R_drew)); exact HO137.out))) (below_size (by repeat (first | (with_reducible first | exact HB.out | apply below_alloc | apply pw_below_drewN | apply below_drew1 | refine below_set ?_ GE131.out) | exact HB.out)))); have n2_ := Aside0.mk (blk_below (g := gb131) (o := .cells #[.int .i64 a0_0, .int .u64 a0_1, .slice A0_2 l0_2.length c0_2] 25 (0, 0)) (by (with_reducible repeat (first | refine blk_drewN ?_ _ | refine blk_drew ?_ | refine blk_alloc ?_ _)); exact BK131.out) hb); have n3_ := Aside0.mk (below_step (by repeat (first | (with_reducible first | exact HB.out | apply below_alloc | apply pw_below_drewN | apply below_drew1 | refine below_set ?_ GE131.out) | exact HB.out)) hb); clear HO137; clear BK131; clear HB; have HO137 := n0_; have HO140 := n1_; have BK131 := n2_; have HB := n3_; clear n0_ n1_ n2_ n3_; (try clear hb); (try clear hb2); (try clear hk); (try clear hi); (try clear ho0); have hcz25_0 : w24.cell? ⟨gb131, 0, none⟩ = some (.int .i64 a0_0) := (blk_cell BK131.out 0).trans rfl; have hcz25_1 : w24.cell? ⟨gb131, 1, none⟩ = some (.int .u64 a0_1) := (blk_cell BK131.out 1).trans rfl; have hcz25_2 : w24.cell? ⟨gb131, 2, none⟩ = some (.slice A0_2 l0_2.length c0_2) := (blk_cell BK131.out 2).trans rfl; have hfz25_0 := blk_frozen BK131.out 0; have hfz25_1 := blk_frozen BK131.out 1; have hfz25_2 := blk_frozen BK131.out 2) | ((with_reducible refine gate_callee (f := 10) rfl ?_); refine goesL_ (some 35) rfl rfl Tryd.func10 (by kernel_rfl) rfl #[.agg #[.int .i64 a0_0, .int .u64 a0_1, .slice A0_2 l0_2.length c0_2]] rfl (by (try simp only [List.map_toArray, List.map_cons, List.map_nil]); first | done | rfl | (simp only [List.length_drop, List.length_take]; rfl)) ?_; (with_reducible refine (wicketgatelaw27_copied.calls a0_0 a0_1 _ _ l0_2 t143 t144 t145 _ ?side1 ?side2 A12.out).mono ?_); (case side1 => repeat (first | exact (Kd.C_below HR0_2.out HB.out) | (with_reducible refine Kd.C_alloc ?_ _) | (with_reducible refine Kd.C_drewN ?_ _) | (with_reducible refine Kd.C_drew ?_))); (case side2 => exact HC0_2.out); rintro e w26 ⟨v146, rfl, ho0, hb⟩; refine ⟨_, rfl, ?_⟩; have n0_ := Aside0.mk (Kd.R_elder' (by (with_reducible repeat (first | apply Kd.R_alloc | apply Kd.R_drewN | apply Kd.R_drew)); exact HO137.out) (Kd.R_base ho0) hb); have n1_ := Aside0.mk (Kd.R_elder' (by (with_reducible repeat (first | apply Kd.R_alloc | apply Kd.R_drewN | apply Kd.R_drew)); exact HO140.out) (Kd.R_base ho0) hb); have n2_ := Aside0.mk (Kd.R_lower (Kd.R_new' (Kd.R_new' ho0 (Kd.R_lt (by (with_reducible repeat (first | apply Kd.R_alloc | apply Kd.R_drewN | apply Kd.R_drew)); exact HO137.out))) (Kd.R_lt (by (with_reducible repeat (first | apply Kd.R_alloc | apply Kd.R_drewN | apply Kd.R_drew)); exact HO140.out))) (below_size (by repeat (first | (with_reducible first | exact HB.out | apply below_alloc | apply pw_below_drewN | apply below_drew1 | refine below_set ?_ GE131.out) | exact HB.out)))); have n3_ := Aside0.mk (blk_below (g := gb131) (o := .cells #[.int .i64 a0_0, .int .u64 a0_1, .slice A0_2 l0_2.length c0_2] 25 (0, 0)) (by (with_reducible repeat (first | refine blk_drewN ?_ _ | refine blk_drew ?_ | refine blk_alloc ?_ _)); exact BK131.out) hb); have n4_ := Aside0.mk (below_step (by repeat (first | (with_reducible first | exact HB.out | apply below_alloc | apply pw_below_drewN | apply below_drew1 | refine below_set ?_ GE131.out) | exact HB.out)) hb); clear HO137; clear HO140; clear BK131; clear HB; have HO137 := n0_; have HO140 := n1_; have HO147 := n2_; have BK131 := n3_; have HB := n4_; clear n0_ n1_ n2_ n3_ n4_; (try clear hb); (try clear hb2); (try clear hk); (try clear hi); (try clear ho0); obtain ⟨Ao27, co27, eo27⟩ := Kd.R_slice HO147.out; subst eo27) | ((with_reducible refine gate_callee (f := 23) rfl ?_); refine goesL_ (some 37) rfl rfl Tryd.func23 (by kernel_rfl) rfl #[.agg #[.int .i64 t143, .int .u64 t144, .slice Ao27 t145.length co27], .int .i64 a2] rfl (by (try simp only [List.map_toArray, List.map_cons, List.map_nil]); first | done | rfl | (simp only [List.length_drop, List.length_take]; rfl)) ?_; (with_reducible refine (log_Of.calls t143 t144 _ _ t145 a2 t148 t151 _ ?side1 ?side2 A13.out).mono ?_); (case side1 => repeat (first | exact (Kd.R_reads' HO147.out).2.2 | (with_reducible refine Kd.C_alloc ?_ _) | (with_reducible refine Kd.C_drewN ?_ _) | (with_reducible refine Kd.C_drew ?_))); (case side2 => exact (Kd.R_reads' HO147.out).2.1); rintro e w28 ⟨v149, rfl, ho0, hb⟩; refine ⟨_, rfl, ?_⟩; have n0_ := Aside0.mk (Kd.R_elder' (by (with_reducible repeat (first | apply Kd.R_alloc | apply Kd.R_drewN | apply Kd.R_drew)); exact HO137.out) (Kd.R_base ho0) hb); have n1_ := Aside0.mk (Kd.R_elder' (by (with_reducible repeat (first | apply Kd.R_alloc | apply Kd.R_drewN | apply Kd.R_drew)); exact HO140.out) (Kd.R_base ho0) hb); have n2_ := Aside0.mk (Kd.R_elder' (by (with_reducible repeat (first | apply Kd.R_alloc | apply Kd.R_drewN | apply Kd.R_drew)); exact HO147.out) (Kd.R_base ho0) hb); have n3_ := Aside0.mk (Kd.R_lower (Kd.R_new' (Kd.R_new' (Kd.R_new' ho0 (Kd.R_lt (by (with_reducible repeat (first | apply Kd.R_alloc | apply Kd.R_drewN | apply Kd.R_drew)); exact HO137.out))) (Kd.R_lt (by (with_reducible repeat (first | apply Kd.R_alloc | apply Kd.R_drewN | apply Kd.R_drew)); exact HO140.out))) (Kd.R_lt (by (with_reducible repeat (first | apply Kd.R_alloc | apply Kd.R_drewN | apply Kd.R_drew)); exact HO147.out))) (below_size (by repeat (first | (with_reducible first | exact HB.out | apply below_alloc | apply pw_below_drewN | apply below_drew1 | refine below_set ?_ GE131.out) | exact HB.out)))); have n4_ := Aside0.mk (blk_below (g := gb131) (o := .cells #[.int .i64 a0_0, .int .u64 a0_1, .slice A0_2 l0_2.length c0_2] 25 (0, 0)) (by (with_reducible repeat (first | refine blk_drewN ?_ _ | refine blk_drew ?_ | refine blk_alloc ?_ _)); exact BK131.out) hb); have n5_ := Aside0.mk (below_step (by repeat (first | (with_reducible first | exact HB.out | apply below_alloc | apply pw_below_drewN | apply below_drew1 | refine below_set ?_ GE131.out) | exact HB.out)) hb); clear HO137; clear HO140; clear HO147; clear BK131; clear HB; have HO137 := n0_; have HO140 := n1_; have HO147 := n2_; have HO150 := n3_; have BK131 := n4_; have HB := n5_; clear n0_ n1_ n2_ n3_ n4_ n5_; (try clear hb); (try clear hb2); (try clear hk); (try clear hi); (try clear ho0); have hcz29_0 : w28.cell? ⟨gb131, 0, none⟩ = some (.int .i64 a0_0) := (blk_cell BK131.out 0).trans rfl; have hcz29_1 : w28.cell? ⟨gb131, 1, none⟩ = some (.int .u64 a0_1) := (blk_cell BK131.out 1).trans rfl; have hcz29_2 : w28.cell? ⟨gb131, 2, none⟩ = some (.slice A0_2 l0_2.length c0_2) := (blk_cell BK131.out 2).trans rfl; have hfz29_0 := blk_frozen BK131.out 0; have hfz29_1 := blk_frozen BK131.out 1; have hfz29_2 := blk_frozen BK131.out 2) | ((with_reducible refine gate_callee (f := 10) rfl ?_); refine goesL_ (some 42) rfl rfl Tryd.func10 (by kernel_rfl) rfl #[.agg #[.int .i64 a0_0, .int .u64 a0_1, .slice A0_2 l0_2.length c0_2]] rfl (by (try simp only [List.map_toArray, List.map_cons, List.map_nil]); first | done | rfl | (simp only [List.length_drop, List.length_take]; rfl)) ?_; (with_reducible refine (wicketgatelaw27_copied.calls a0_0 a0_1 _ _ l0_2 t152 t153 t154 _ ?side1 ?side2 A14.out).mono ?_); (case side1 => repeat (first | exact (Kd.C_below HR0_2.out HB.out) | (with_reducible refine Kd.C_alloc ?_ _) | (with_reducible refine Kd.C_drewN ?_ _) | (with_reducible refine Kd.C_drew ?_))); (case side2 => exact HC0_2.out); rintro e w30 ⟨v155, rfl, ho0, hb⟩; refine ⟨_, rfl, ?_⟩; have n0_ := Aside0.mk (Kd.R_elder' (by (with_reducible repeat (first | apply Kd.R_alloc | apply Kd.R_drewN | apply Kd.R_drew)); exact HO137.out) (Kd.R_base ho0) hb); have n1_ := Aside0.mk (Kd.R_elder' (by (with_reducible repeat (first | apply Kd.R_alloc | apply Kd.R_drewN | apply Kd.R_drew)); exact HO140.out) (Kd.R_base ho0) hb); have n2_ := Aside0.mk (Kd.R_elder' (by (with_reducible repeat (first | apply Kd.R_alloc | apply Kd.R_drewN | apply Kd.R_drew)); exact HO147.out) (Kd.R_base ho0) hb); have n3_ := Aside0.mk (Kd.R_elder' (by (with_reducible repeat (first | apply Kd.R_alloc | apply Kd.R_drewN | apply Kd.R_drew)); exact HO150.out) (Kd.R_base ho0) hb); have n4_ := Aside0.mk (Kd.R_lower (Kd.R_new' (Kd.R_new' (Kd.R_new' (Kd.R_new' ho0 (Kd.R_lt (by (with_reducible repeat (first | apply Kd.R_alloc | apply Kd.R_drewN | apply Kd.R_drew)); exact HO137.out))) (Kd.R_lt (by (with_reducible repeat (first | apply Kd.R_alloc | apply Kd.R_drewN | apply Kd.R_drew)); exact HO140.out))) (Kd.R_lt (by (with_reducible repeat (first | apply Kd.R_alloc | apply Kd.R_drewN | apply Kd.R_drew)); exact HO147.out))) (Kd.R_lt (by (with_reducible repeat (first | apply Kd.R_alloc | apply Kd.R_drewN | apply Kd.R_drew)); exact HO150.out))) (below_size (by repeat (first | (with_reducible first | exact HB.out | apply below_alloc | apply pw_below_drewN | apply below_drew1 | refine below_set ?_ GE131.out) | exact HB.out)))); have n5_ := Aside0.mk (blk_below (g := gb131) (o := .cells #[.int .i64 a0_0, .int .u64 a0_1, .slice A0_2 l0_2.length c0_2] 25 (0, 0)) (by (with_reducible repeat (first | refine blk_drewN ?_ _ | refine blk_drew ?_ | refine blk_alloc ?_ _)); exact BK131.out) hb); have n6_ := Aside0.mk (below_step (by repeat (first | (with_reducible first | exact HB.out | apply below_alloc | apply pw_below_drewN | apply below_drew1 | refine below_set ?_ GE131.out) | exact HB.out)) hb); clear HO137; clear HO140; clear HO147; clear HO150; clear BK131; clear HB; have HO137 := n0_; have HO140 := n1_; have HO147 := n2_; have HO150 := n3_; have HO156 := n4_; have BK131 := n5_; have HB := n6_; clear n0_ n1_ n2_ n3_ n4_ n5_ n6_; (try clear hb); (try clear hb2); (try clear hk); (try clear hi); (try clear ho0); obtain ⟨Ao31, co31, eo31⟩ := Kd.R_slice HO156.out; subst eo31) | ((with_reducible refine gate_callee (f := 15) rfl ?_); refine goesL_ (some 43) rfl rfl Tryd.func15 (by kernel_rfl) rfl #[.agg #[.int .i64 t152, .int .u64 t153, .slice Ao31 t154.length co31]] rfl (by (try simp only [List.map_toArray, List.map_cons, List.map_nil]); first | done | rfl | (simp only [List.length_drop, List.length_take]; rfl)) ?_; (with_reducible refine (log_Dropped.calls t152 t153 _ _ t154 t157 t158 _ ?side1 ?side2 A15.out).mono ?_); (case side1 => repeat (first | exact (Kd.R_reads' HO156.out).2.2 | (with_reducible refine Kd.C_alloc ?_ _) | (with_reducible refine Kd.C_drewN ?_ _) | (with_reducible refine Kd.C_drew ?_))); (case side2 => exact (Kd.R_reads' HO156.out).2.1); rintro e w32 ⟨rfl, hb⟩; refine ⟨_, rfl, ?_⟩; have n0_ := Aside0.mk (Kd.R_below (by (with_reducible repeat (first | apply Kd.R_alloc | apply Kd.R_drewN | apply Kd.R_drew)); exact HO137.out) hb); have n1_ := Aside0.mk (Kd.R_below (by (with_reducible repeat (first | apply Kd.R_alloc | apply Kd.R_drewN | apply Kd.R_drew)); exact HO140.out) hb); have n2_ := Aside0.mk (Kd.R_below (by (with_reducible repeat (first | apply Kd.R_alloc | apply Kd.R_drewN | apply Kd.R_drew)); exact HO147.out) hb); have n3_ := Aside0.mk (Kd.R_below (by (with_reducible repeat (first | apply Kd.R_alloc | apply Kd.R_drewN | apply Kd.R_drew)); exact HO150.out) hb); have n4_ := Aside0.mk (Kd.R_below (by (with_reducible repeat (first | apply Kd.R_alloc | apply Kd.R_drewN | apply Kd.R_drew)); exact HO156.out) hb); have n5_ := Aside0.mk (blk_below (g := gb131) (o := .cells #[.int .i64 a0_0, .int .u64 a0_1, .slice A0_2 l0_2.length c0_2] 25 (0, 0)) (by (with_reducible repeat (first | refine blk_drewN ?_ _ | refine blk_drew ?_ | refine blk_alloc ?_ _)); exact BK131.out) hb); have n6_ := Aside0.mk (below_step (by repeat (first | (with_reducible first | exact HB.out | apply below_alloc | apply pw_below_drewN | apply below_drew1 | refine below_set ?_ GE131.out) | exact HB.out)) hb); clear HO137; clear HO140; clear HO147; clear HO150; clear HO156; clear BK131; clear HB; have HO137 := n0_; have HO140 := n1_; have HO147 := n2_; have HO150 := n3_; have HO156 := n4_; have BK131 := n5_; have HB := n6_; clear n0_ n1_ n2_ n3_ n4_ n5_ n6_; (try clear hb); (try clear hb2); (try clear hk); (try clear hi); have hcz33_0 : w32.cell? ⟨gb131, 0, none⟩ = some (.int .i64 a0_0) := (blk_cell BK131.out 0).trans rfl; have hcz33_1 : w32.cell? ⟨gb131, 1, none⟩ = some (.int .u64 a0_1) := (blk_cell BK131.out 1).trans rfl; have hcz33_2 : w32.cell? ⟨gb131, 2, none⟩ = some (.slice A0_2 l0_2.length c0_2) := (blk_cell BK131.out 2).trans rfl; have hfz33_0 := blk_frozen BK131.out 0; have hfz33_1 := blk_frozen BK131.out 1; have hfz33_2 := blk_frozen BK131.out 2) | ((with_reducible refine gate_callee (f := 19) rfl ?_); refine goesL_ (some 47) rfl rfl Tryd.func19 (by kernel_rfl) rfl #[.agg #[.int .i64 a0_0, .int .u64 a0_1, .slice A0_2 l0_2.length c0_2]] rfl (by (try simp only [List.map_toArray, List.map_cons, List.map_nil]); first | done | rfl | (simp only [List.length_drop, List.length_take]; rfl)) ?_; (with_reducible refine (wicketgateref27_Right.calls a0_0 a0_1 _ _ l0_2 true _ ?side1 ?side2 A16.out).mono ?_); (case side1 => repeat (first | exact (Kd.C_below HR0_2.out HB.out) | (with_reducible refine Kd.C_alloc ?_ _) | (with_reducible refine Kd.C_drewN ?_ _) | (with_reducible refine Kd.C_drew ?_))); (case side2 => exact HC0_2.out); rintro e w34 ⟨rfl, hb⟩; refine ⟨_, rfl, ?_⟩; have n0_ := Aside0.mk (Kd.R_below (by (with_reducible repeat (first | apply Kd.R_alloc | apply Kd.R_drewN | apply Kd.R_drew)); exact HO137.out) hb); have n1_ := Aside0.mk (Kd.R_below (by (with_reducible repeat (first | apply Kd.R_alloc | apply Kd.R_drewN | apply Kd.R_drew)); exact HO140.out) hb); have n2_ := Aside0.mk (Kd.R_below (by (with_reducible repeat (first | apply Kd.R_alloc | apply Kd.R_drewN | apply Kd.R_drew)); exact HO147.out) hb); have n3_ := Aside0.mk (Kd.R_below (by (with_reducible repeat (first | apply Kd.R_alloc | apply Kd.R_drewN | apply Kd.R_drew)); exact HO150.out) hb); have n4_ := Aside0.mk (Kd.R_below (by (with_reducible repeat (first | apply Kd.R_alloc | apply Kd.R_drewN | apply Kd.R_drew)); exact HO156.out) hb); have n5_ := Aside0.mk (blk_below (g := gb131) (o := .cells #[.int .i64 a0_0, .int .u64 a0_1, .slice A0_2 l0_2.length c0_2] 25 (0, 0)) (by (with_reducible repeat (first | refine blk_drewN ?_ _ | refine blk_drew ?_ | refine blk_alloc ?_ _)); exact BK131.out) hb); have n6_ := Aside0.mk (below_step (by repeat (first | (with_reducible first | exact HB.out | apply below_alloc | apply pw_below_drewN | apply below_drew1 | refine below_set ?_ GE131.out) | exact HB.out)) hb); clear HO137; clear HO140; clear HO147; clear HO150; clear HO156; clear BK131; clear HB; have HO137 := n0_; have HO140 := n1_; have HO147 := n2_; have HO150 := n3_; have HO156 := n4_; have BK131 := n5_; have HB := n6_; clear n0_ n1_ n2_ n3_ n4_ n5_ n6_; (try clear hb); (try clear hb2); (try clear hk); (try clear hi); have hcz35_0 : w34.cell? ⟨gb131, 0, none⟩ = some (.int .i64 a0_0) := (blk_cell BK131.out 0).trans rfl; have hcz35_1 : w34.cell? ⟨gb131, 1, none⟩ = some (.int .u64 a0_1) := (blk_cell BK131.out 1).trans rfl; have hcz35_2 : w34.cell? ⟨gb131, 2, none⟩ = some (.slice A0_2 l0_2.length c0_2) := (blk_cell BK131.out 2).trans rfl; have hfz35_0 := blk_frozen BK131.out 0; have hfz35_1 := blk_frozen BK131.out 1; have hfz35_2 := blk_frozen BK131.out 2) | ((with_reducible refine gate_callee (f := 24) rfl ?_); refine goesL_ (some 80) rfl rfl Tryd.func24 (by kernel_rfl) rfl #[.agg #[.int .i64 a0_0, .int .u64 a0_1, .slice A0_2 l0_2.length c0_2], .int .u64 a1] rfl (by (try simp only [List.map_toArray, List.map_cons, List.map_nil]); first | done | rfl | (simp only [List.length_drop, List.length_take]; rfl)) ?_; (with_reducible refine (wicketgateref27_Since.calls a0_0 a0_1 _ _ l0_2 a1 t160 t163 _ ?side1 ?side2 A18.out).mono ?_); (case side1 => repeat (first | exact (Kd.C_below HR0_2.out HB.out) | (with_reducible refine Kd.C_alloc ?_ _) | (with_reducible refine Kd.C_drewN ?_ _) | (with_reducible refine Kd.C_drew ?_))); (case side2 => exact HC0_2.out); rintro e w36 ⟨v161, rfl, ho0, hb⟩; refine ⟨_, rfl, ?_⟩; have n0_ := Aside0.mk (Kd.R_elder' (by (with_reducible repeat (first | apply Kd.R_alloc | apply Kd.R_drewN | apply Kd.R_drew)); exact HO137.out) (Kd.R_base ho0) hb); have n1_ := Aside0.mk (Kd.R_elder' (by (with_reducible repeat (first | apply Kd.R_alloc | apply Kd.R_drewN | apply Kd.R_drew)); exact HO140.out) (Kd.R_base ho0) hb); have n2_ := Aside0.mk (Kd.R_elder' (by (with_reducible repeat (first | apply Kd.R_alloc | apply Kd.R_drewN | apply Kd.R_drew)); exact HO147.out) (Kd.R_base ho0) hb); have n3_ := Aside0.mk (Kd.R_elder' (by (with_reducible repeat (first | apply Kd.R_alloc | apply Kd.R_drewN | apply Kd.R_drew)); exact HO150.out) (Kd.R_base ho0) hb); have n4_ := Aside0.mk (Kd.R_elder' (by (with_reducible repeat (first | apply Kd.R_alloc | apply Kd.R_drewN | apply Kd.R_drew)); exact HO156.out) (Kd.R_base ho0) hb); have n5_ := Aside0.mk (Kd.R_lower (Kd.R_new' (Kd.R_new' (Kd.R_new' (Kd.R_new' (Kd.R_new' ho0 (Kd.R_lt (by (with_reducible repeat (first | apply Kd.R_alloc | apply Kd.R_drewN | apply Kd.R_drew)); exact HO137.out))) (Kd.R_lt (by (with_reducible repeat (first | apply Kd.R_alloc | apply Kd.R_drewN | apply Kd.R_drew)); exact HO140.out))) (Kd.R_lt (by (with_reducible repeat (first | apply Kd.R_alloc | apply Kd.R_drewN | apply Kd.R_drew)); exact HO147.out))) (Kd.R_lt (by (with_reducible repeat (first | apply Kd.R_alloc | apply Kd.R_drewN | apply Kd.R_drew)); exact HO150.out))) (Kd.R_lt (by (with_reducible repeat (first | apply Kd.R_alloc | apply Kd.R_drewN | apply Kd.R_drew)); exact HO156.out))) (below_size (by repeat (first | (with_reducible first | exact HB.out | apply below_alloc | apply pw_below_drewN | apply below_drew1 | refine below_set ?_ GE131.out) | exact HB.out)))); have n6_ := Aside0.mk (blk_below (g := gb131) (o := .cells #[.int .i64 a0_0, .int .u64 a0_1, .slice A0_2 l0_2.length c0_2] 25 (0, 0)) (by (with_reducible repeat (first | refine blk_drewN ?_ _ | refine blk_drew ?_ | refine blk_alloc ?_ _)); exact BK131.out) hb); have n7_ := Aside0.mk (below_step (by repeat (first | (with_reducible first | exact HB.out | apply below_alloc | apply pw_below_drewN | apply below_drew1 | refine below_set ?_ GE131.out) | exact HB.out)) hb); clear HO137; clear HO140; clear HO147; clear HO150; clear HO156; clear BK131; clear HB; have HO137 := n0_; have HO140 := n1_; have HO147 := n2_; have HO150 := n3_; have HO156 := n4_; have HO162 := n5_; have BK131 := n6_; have HB := n7_; clear n0_ n1_ n2_ n3_ n4_ n5_ n6_ n7_; (try clear hb); (try clear hb2); (try clear hk); (try clear hi); (try clear ho0); have hcz37_0 : w36.cell? ⟨gb131, 0, none⟩ = some (.int .i64 a0_0) := (blk_cell BK131.out 0).trans rfl; have hcz37_1 : w36.cell? ⟨gb131, 1, none⟩ = some (.int .u64 a0_1) := (blk_cell BK131.out 1).trans rfl; have hcz37_2 : w36.cell? ⟨gb131, 2, none⟩ = some (.slice A0_2 l0_2.length c0_2) := (blk_cell BK131.out 2).trans rfl; have hfz37_0 := blk_frozen BK131.out 0; have hfz37_1 := blk_frozen BK131.out 1; have hfz37_2 := blk_frozen BK131.out 2))
    go_loopg [16, 86] k (fun kq v16 v86 w' => ∃ (x16_1 : List (S31)) (x86_1 : Int), v86 = .int .i64 x86_1 ∧ Aside0 (wicketgatelaw27_LogReads.l0 kq a2 t138 t141 t142 t148 t151 t157 t158 t160 t163 x16_1 l0_2 (l0_2.length : Int) x86_1 a0_0 a0_1 l0_2 = some r) ∧ Aside0 (kq ≤ k) ∧ Aside0 (Kd.R k31 31 w' w.heap.size (fun k_ => some k_ ≠ (v149 : Value).ownBlock ∧ some k_ ≠ (v161 : Value).ownBlock ∧ some k_ ≠ (v16 : Value).ownBlock) v139 t138) ∧ Aside0 (Kd.R k31 31 w' w.heap.size (fun k_ => some k_ ≠ (v139 : Value).ownBlock ∧ some k_ ≠ (v161 : Value).ownBlock ∧ some k_ ≠ (v16 : Value).ownBlock) v149 t148) ∧ Aside0 (Kd.R k31 31 w' w.heap.size (fun k_ => some k_ ≠ (v139 : Value).ownBlock ∧ some k_ ≠ (v149 : Value).ownBlock ∧ some k_ ≠ (v16 : Value).ownBlock) v161 t160) ∧ Aside0 (Kd.R k31 31 w' w.heap.size (fun k_ => some k_ ≠ (v139 : Value).ownBlock ∧ some k_ ≠ (v149 : Value).ownBlock ∧ some k_ ≠ (v161 : Value).ownBlock) v16 x16_1) ∧ Aside0 (w'.heap[gb131]? = some (.cells #[.int .i64 a0_0, .int .u64 a0_1, (.slice A0_2 l0_2.length c0_2)] 25 (0, 0))) ∧ Aside0 (Below w.heap.size w w'))
    case atStart => exact ⟨(([] : List (S31))), (0), (by first | rfl | (simp; done) | (simp [*]; done)), H', ⟨Nat.le_refl _⟩, ⟨by (with_reducible repeat (first | apply Kd.R_alloc | apply Kd.R_drewN | apply Kd.R_drew)); exact Kd.R_mono HO140.out (fun _ hk => ⟨hk.1.1.2, ⟨hk.2, (by simp [Value.ownBlock])⟩⟩)⟩, ⟨by (with_reducible repeat (first | apply Kd.R_alloc | apply Kd.R_drewN | apply Kd.R_drew)); exact Kd.R_mono HO150.out (fun _ hk => ⟨hk.1.1.1.2, ⟨hk.2, (by simp [Value.ownBlock])⟩⟩)⟩, ⟨by (with_reducible repeat (first | apply Kd.R_alloc | apply Kd.R_drewN | apply Kd.R_drew)); exact Kd.R_mono HO162.out (fun _ hk => ⟨hk.1.1.1.2, ⟨hk.1.2, (by simp [Value.ownBlock])⟩⟩)⟩, ⟨by first | exact Kd.R_nil _ _ _ _ _ | exact Kd.N_nil _ _ _ _ _ | exact Kd.V_nil _ _ _ _ _ | exact Kd.Q_nil _ _ _ _ _ | exact Kd.S_nil _ _ _ _ _⟩, ⟨by (with_reducible repeat (first | refine blk_drewN ?_ _ | refine blk_drew ?_ | refine blk_alloc ?_ _)); exact BK131.out⟩, ⟨by repeat (first | (with_reducible first | exact HB.out | apply below_alloc | apply pw_below_drewN | apply below_drew1 | refine below_set ?_ GE131.out) | exact HB.out)⟩⟩
    case round =>
     clear H'
     try clear c1
     try clear c2
     try clear p2
     try clear c5
     try clear c6
     try clear c6b0
     try clear c6b1
     try clear c7
     try clear c9
     try clear c10
     try clear c15
     try clear c17
     try clear c19
     try clear c22
     try clear c23
     try clear c24
     try clear hcz21_0
     try clear hcz21_1
     try clear hcz21_2
     try clear hcz25_0
     try clear hcz25_1
     try clear hcz25_2
     try clear hcz29_0
     try clear hcz29_1
     try clear hcz29_2
     try clear hcz33_0
     try clear hcz33_1
     try clear hcz33_2
     try clear hcz35_0
     try clear hcz35_1
     try clear hcz35_2
     try clear hcz37_0
     try clear hcz37_1
     try clear hcz37_2
     try clear hcz9_0
     try clear hcz9_1
     try clear hcz9_2
     try clear hfz21_0
     try clear hfz21_1
     try clear hfz21_2
     try clear hfz25_0
     try clear hfz25_1
     try clear hfz25_2
     try clear hfz29_0
     try clear hfz29_1
     try clear hfz29_2
     try clear hfz33_0
     try clear hfz33_1
     try clear hfz33_2
     try clear hfz35_0
     try clear hfz35_1
     try clear hfz35_2
     try clear hfz37_0
     try clear hfz37_1
     try clear hfz37_2
     try clear hfz9_0
     try clear hfz9_1
     try clear hfz9_2
     obtain ⟨x16_1, x86_1, rfl, HA, HK1, HO_7, HO_10, HO_14, HO_16, BK131, HB⟩ := hrel
     cases gk with
     | zero => exact absurd HA.out (by simp [wicketgatelaw27_LogReads.l0])
     | succ k1 =>
      have H := HA.out
      clear HA
      simp only [wicketgatelaw27_LogReads.l0] at H
      by_cases c38 : x86_1 < (l0_2.length : Int)
      ·rw [if_pos c38] at H
       have c38b0 : decide (x86_1 < (l0_2.length : Int)) = true := decide_eq_true c38
       clear c38
       by_cases c39 : 0 ≤ x86_1
       ·rw [if_pos c39] at H
        have c39b0 : decide (0 ≤ x86_1) = true := decide_eq_true c39
        clear c39
        by_cases c40 : x86_1 < (l0_2.length : Int)
        ·rw [if_pos c40] at H
         have c40b0 : decide (x86_1 < (l0_2.length : Int)) = true := decide_eq_true c40
         clear c40
         by_cases c41 : ((rd_T31 l0_2 x86_1).f1) = a2
         ·rw [if_pos c41] at H
          have c41b0 : (((rd_T31 l0_2 x86_1).f1) == a2) = true := beq_iff_eq.mpr c41
          have c41b1 : (((rd_T31 l0_2 x86_1).f1) != a2) = false := bne_eq_false_iff_eq.mpr c41
          clear c41
          by_cases c42 : x16_1.length < 3518437208883
          ·rw [if_pos c42] at H
           have LMc42 := Aside0.mk c42
           clear c42
           obtain ⟨y166, hy166⟩ : ∃ y_ : List (S31), y_ = (x16_1 ++ [(⟨(rd_T31 l0_2 x86_1).f0, (rd_T31 l0_2 x86_1).f1, (rd_T31 l0_2 x86_1).f2, (rd_T31 l0_2 x86_1).f3, (⟨(rd_T31 l0_2 x86_1).f4.f0, (rd_T31 l0_2 x86_1).f4.f1⟩ : S29)⟩ : S31)]) := ⟨_, rfl⟩
           replace H : (wicketgatelaw27_LogReads.l0 k1 a2 t138 t141 t142 t148 t151 t157 t158 t160 t163 y166 l0_2 (l0_2.length : Int) (wrap64 (x86_1 + 1)) a0_0 a0_1 l0_2) = some r := by first | (rw [hy166]; with_reducible exact H) | (have H2_ := (Option.bind_some _ _).symm.trans H; rw [hy166]; with_reducible exact H2_) | (have H2_ := (Option.bind_some _ _).symm.trans H; with_reducible exact H2_) | with_reducible exact H | (rw [hy166]; exact H) | exact H
           have Ny166 := Aside0.mk hy166
           clear hy166
           have H' := Aside0.mk H
           clear H
           have p164 : 0 ≤ (x86_1 : Int) := of_decide_eq_true (by first | (with_reducible assumption) | assumption)
           have q164 : x86_1 < (l0_2.length : Int) := of_decide_eq_true (by first | (with_reducible assumption) | assumption)
           obtain ⟨ad164, e164, hx164_0, hx164_1, hx164_2, hx164_3, hx164_4, hx164_5⟩ := at_T31 HR0_2.out x86_1 p164 q164
           cases e164
           replace hx164_0 := (HB.out.cell (World.block_lt_of_cell? w _ hx164_0)).trans hx164_0
           replace hx164_1 := (HB.out.cell (World.block_lt_of_cell? w _ hx164_1)).trans hx164_1
           replace hx164_2 := (HB.out.cell (World.block_lt_of_cell? w _ hx164_2)).trans hx164_2
           replace hx164_3 := (HB.out.cell (World.block_lt_of_cell? w _ hx164_3)).trans hx164_3
           replace hx164_4 := (HB.out.cell (World.block_lt_of_cell? w _ hx164_4)).trans hx164_4
           replace hx164_5 := (HB.out.cell (World.block_lt_of_cell? w _ hx164_5)).trans hx164_5
           replace p164 := eq_true p164
           replace q164 := eq_true q164
           go_wp2_with (first | ((with_reducible refine gate_dst (N := 18) rfl ?_); (try (refine gate_guard (by rfl) ?_; dsimp only)); refine box_event ?hg (N := 18) ?hd (cs := #[.int .u64 0, .int .i64 0, .int .u32 0, .int .u32 0, .int .i64 0, .int .u16 0]) (t := 31) ?hr ?_; (case hd => rfl); (case hg => rfl); (case hr => first | (go_simp; done) | (go_simp; rfl)); intro gb165 hg w43 hbox hb; have n0_ := Aside0.mk (Kd.R_below (Kd.R_elderB (by (with_reducible repeat (first | apply Kd.R_alloc | apply Kd.R_drewN | apply Kd.R_drew)); exact HO_7.out) gb165 (Nat.le_of_eq hg.symm)) hb); have n1_ := Aside0.mk (Kd.R_below (Kd.R_elderB (by (with_reducible repeat (first | apply Kd.R_alloc | apply Kd.R_drewN | apply Kd.R_drew)); exact HO_10.out) gb165 (Nat.le_of_eq hg.symm)) hb); have n2_ := Aside0.mk (Kd.R_below (Kd.R_elderB (by (with_reducible repeat (first | apply Kd.R_alloc | apply Kd.R_drewN | apply Kd.R_drew)); exact HO_14.out) gb165 (Nat.le_of_eq hg.symm)) hb); have n3_ := Aside0.mk (Kd.R_below (Kd.R_elderB (by (with_reducible repeat (first | apply Kd.R_alloc | apply Kd.R_drewN | apply Kd.R_drew)); exact HO_16.out) gb165 (Nat.le_of_eq hg.symm)) hb); have n4_ := Aside0.mk (blk_below (g := gb131) (o := .cells #[.int .i64 a0_0, .int .u64 a0_1, .slice (some ad164) l0_2.length c0_2] 25 (0, 0)) (by (with_reducible repeat (first | refine blk_drewN ?_ _ | refine blk_drew ?_ | refine blk_alloc ?_ _)); exact BK131.out) hb); have n5_ := Aside0.mk (below_step (by repeat (first | (with_reducible first | exact HB.out | apply below_alloc | apply pw_below_drewN | apply below_drew1 | refine below_set ?_ GE131.out) | exact HB.out)) hb); have n6_ := Aside0.mk (hbox); have n7_ := Aside0.mk ((by rw [hg]; exact (below_size (by repeat (first | (with_reducible first | exact HB.out | apply below_alloc | apply pw_below_drewN | apply below_drew1 | refine below_set ?_ GE131.out) | exact HB.out))) : w.heap.size ≤ gb165)); have n8_ := Aside0.mk ((by rw [hg]; exact (below_size (by repeat (first | (with_reducible first | exact HB.out | apply below_alloc | apply pw_below_drewN | apply below_drew1 | refine below_set ?_ GE131.out) | exact HB.out))) : w.heap.size ≤ gb165)); have n9_ := Aside0.mk ((by rw [hg]; exact Nat.ne_of_lt (blk_lt (g := gb131) (o := .cells #[.int .i64 a0_0, .int .u64 a0_1, .slice (some ad164) l0_2.length c0_2] 25 (0, 0)) (by (with_reducible repeat (first | refine blk_drewN ?_ _ | refine blk_drew ?_ | refine blk_alloc ?_ _)); exact BK131.out)) : gb131 ≠ gb165)); have n10_ := Aside0.mk ((by rw [hg]; exact Nat.ne_of_gt (blk_lt (g := gb131) (o := .cells #[.int .i64 a0_0, .int .u64 a0_1, .slice (some ad164) l0_2.length c0_2] 25 (0, 0)) (by (with_reducible repeat (first | refine blk_drewN ?_ _ | refine blk_drew ?_ | refine blk_alloc ?_ _)); exact BK131.out)) : gb165 ≠ gb131)); clear HO_7; clear HO_10; clear HO_14; clear HO_16; clear BK131; clear HB; have HO_7 := n0_; have HO_10 := n1_; have HO_14 := n2_; have HO_16 := n3_; have BK131 := n4_; have HB := n5_; have BK165 := n6_; have GW165 := n7_; have GE165 := n8_; have NB131_165 := n9_; have NB165_131 := n10_; clear n0_ n1_ n2_ n3_ n4_ n5_ n6_ n7_ n8_ n9_ n10_; clear hb hbox hg; have hnb44 := NB165_131.out; have hnc44 := NB131_165.out; have hcz45_0 : w43.cell? ⟨gb165, 0, none⟩ = some (.int .u64 0) := (blk_cell BK165.out 0).trans rfl; have hcz45_1 : w43.cell? ⟨gb165, 1, none⟩ = some (.int .i64 0) := (blk_cell BK165.out 1).trans rfl; have hcz45_2 : w43.cell? ⟨gb165, 2, none⟩ = some (.int .u32 0) := (blk_cell BK165.out 2).trans rfl; have hcz45_3 : w43.cell? ⟨gb165, 3, none⟩ = some (.int .u32 0) := (blk_cell BK165.out 3).trans rfl; have hcz45_4 : w43.cell? ⟨gb165, 4, none⟩ = some (.int .i64 0) := (blk_cell BK165.out 4).trans rfl; have hcz45_5 : w43.cell? ⟨gb165, 5, none⟩ = some (.int .u16 0) := (blk_cell BK165.out 5).trans rfl; have hfz45_0 := blk_frozen BK165.out 0; have hfz45_1 := blk_frozen BK165.out 1; have hfz45_2 := blk_frozen BK165.out 2; have hfz45_3 := blk_frozen BK165.out 3; have hfz45_4 := blk_frozen BK165.out 4; have hfz45_5 := blk_frozen BK165.out 5) | ((with_reducible refine gate_builtin (b := .append) (xs := #[.tmp 94, .tmp 96]) rfl ?_); (try (refine gate_guard (by rfl) ?_; dsimp only)); at_builtin; refine Kd.R_append k31 (w0 := w) w.heap.size rfl (.tmp 94) (.tmp 96) 23 31 (.agg #[(.int .u64 0), (.int .i64 0), (.int .u32 0), (.int .u32 0), (.int .i64 0), (.int .u16 0)]) 40 rfl Tryd.underlying23 info31 rfl (by decide) (by omega) u16 x16_1 (⟨(rd_T31 l0_2 x86_1).f0, (rd_T31 l0_2 x86_1).f1, (rd_T31 l0_2 x86_1).f2, (rd_T31 l0_2 x86_1).f3, (⟨(rd_T31 l0_2 x86_1).f4.f0, (rd_T31 l0_2 x86_1).f4.f1⟩ : S29)⟩ : S31) [.int .u64 ((rd_T31 l0_2 x86_1).f0), .int .i64 ((rd_T31 l0_2 x86_1).f1), .int .u32 ((rd_T31 l0_2 x86_1).f2), .int .u32 ((rd_T31 l0_2 x86_1).f3), .int .i64 ((rd_T31 l0_2 x86_1).f4.f0), .int .u16 ((rd_T31 l0_2 x86_1).f4.f1)] (fun k_ => some k_ ≠ (v139 : Value).ownBlock ∧ some k_ ≠ (v149 : Value).ownBlock ∧ some k_ ≠ (v161 : Value).ownBlock ∧ k_ ≠ gb165) (fun _ => False) rfl (by first | (go_simp; done) | (go_simp; rfl)) ?aP (fun _ hk => hk.elim) ?aF ?aO ?aB ?aS ?aL ?_; (case aP => exact k31_mkM _ _ _ (⟨(rd_T31 l0_2 x86_1).f0, (rd_T31 l0_2 x86_1).f1, (rd_T31 l0_2 x86_1).f2, (rd_T31 l0_2 x86_1).f3, (⟨(rd_T31 l0_2 x86_1).f4.f0, (rd_T31 l0_2 x86_1).f4.f1⟩ : S29)⟩ : S31)); (case aB => exact (by repeat (first | (with_reducible first | exact HB.out | apply below_alloc | apply pw_below_drewN | apply below_drew1 | refine below_set ?_ GE131.out | refine below_set ?_ GE165.out) | exact HB.out))); (case aF => exact (fun k_ hk => ⟨Kd.fresh' (Kd.R_lt (by (with_reducible repeat (first | apply Kd.R_alloc | apply Kd.R_drewN | apply Kd.R_drew)); exact (Kd.R_mono (Kd.R_far (p := ⟨gb165, 5, none⟩) (Kd.R_far (p := ⟨gb165, 4, none⟩) (Kd.R_far (p := ⟨gb165, 3, none⟩) (Kd.R_far (p := ⟨gb165, 2, none⟩) (Kd.R_far (p := ⟨gb165, 1, none⟩) (Kd.R_far (p := ⟨gb165, 0, none⟩) (Kd.R_mono HO_7.out (fun k_ hk => (⟨hk, hk.2⟩ : _ ∧ k_ ≠ gb165))) (fun _ hk => hk.2) (.int .u64 ((rd_T31 l0_2 x86_1).f0))) (fun _ hk => hk.2) (.int .i64 ((rd_T31 l0_2 x86_1).f1))) (fun _ hk => hk.2) (.int .u32 ((rd_T31 l0_2 x86_1).f2))) (fun _ hk => hk.2) (.int .u32 ((rd_T31 l0_2 x86_1).f3))) (fun _ hk => hk.2) (.int .i64 ((rd_T31 l0_2 x86_1).f4.f0))) (fun _ hk => hk.2) (.int .u16 ((rd_T31 l0_2 x86_1).f4.f1))) (fun _ h_ => h_.1)))) k_ hk, Kd.fresh' (Kd.R_lt (by (with_reducible repeat (first | apply Kd.R_alloc | apply Kd.R_drewN | apply Kd.R_drew)); exact (Kd.R_mono (Kd.R_far (p := ⟨gb165, 5, none⟩) (Kd.R_far (p := ⟨gb165, 4, none⟩) (Kd.R_far (p := ⟨gb165, 3, none⟩) (Kd.R_far (p := ⟨gb165, 2, none⟩) (Kd.R_far (p := ⟨gb165, 1, none⟩) (Kd.R_far (p := ⟨gb165, 0, none⟩) (Kd.R_mono HO_10.out (fun k_ hk => (⟨hk, hk.2⟩ : _ ∧ k_ ≠ gb165))) (fun _ hk => hk.2) (.int .u64 ((rd_T31 l0_2 x86_1).f0))) (fun _ hk => hk.2) (.int .i64 ((rd_T31 l0_2 x86_1).f1))) (fun _ hk => hk.2) (.int .u32 ((rd_T31 l0_2 x86_1).f2))) (fun _ hk => hk.2) (.int .u32 ((rd_T31 l0_2 x86_1).f3))) (fun _ hk => hk.2) (.int .i64 ((rd_T31 l0_2 x86_1).f4.f0))) (fun _ hk => hk.2) (.int .u16 ((rd_T31 l0_2 x86_1).f4.f1))) (fun _ h_ => h_.1)))) k_ hk, Kd.fresh' (Kd.R_lt (by (with_reducible repeat (first | apply Kd.R_alloc | apply Kd.R_drewN | apply Kd.R_drew)); exact (Kd.R_mono (Kd.R_far (p := ⟨gb165, 5, none⟩) (Kd.R_far (p := ⟨gb165, 4, none⟩) (Kd.R_far (p := ⟨gb165, 3, none⟩) (Kd.R_far (p := ⟨gb165, 2, none⟩) (Kd.R_far (p := ⟨gb165, 1, none⟩) (Kd.R_far (p := ⟨gb165, 0, none⟩) (Kd.R_mono HO_14.out (fun k_ hk => (⟨hk, hk.2⟩ : _ ∧ k_ ≠ gb165))) (fun _ hk => hk.2) (.int .u64 ((rd_T31 l0_2 x86_1).f0))) (fun _ hk => hk.2) (.int .i64 ((rd_T31 l0_2 x86_1).f1))) (fun _ hk => hk.2) (.int .u32 ((rd_T31 l0_2 x86_1).f2))) (fun _ hk => hk.2) (.int .u32 ((rd_T31 l0_2 x86_1).f3))) (fun _ hk => hk.2) (.int .i64 ((rd_T31 l0_2 x86_1).f4.f0))) (fun _ hk => hk.2) (.int .u16 ((rd_T31 l0_2 x86_1).f4.f1))) (fun _ h_ => h_.1)))) k_ hk, Kd.freshB (g := gb165) (o := .cells #[.int .u64 ((rd_T31 l0_2 x86_1).f0), .int .i64 ((rd_T31 l0_2 x86_1).f1), .int .u32 ((rd_T31 l0_2 x86_1).f2), .int .u32 ((rd_T31 l0_2 x86_1).f3), .int .i64 ((rd_T31 l0_2 x86_1).f4.f0), .int .u16 ((rd_T31 l0_2 x86_1).f4.f1)] 31 (0, 0)) (by (with_reducible repeat (first | refine blk_drewN ?_ _ | refine blk_drew ?_ | refine blk_alloc ?_ _)); refine blk_put (cs := #[.int .u64 ((rd_T31 l0_2 x86_1).f0), .int .i64 ((rd_T31 l0_2 x86_1).f1), .int .u32 ((rd_T31 l0_2 x86_1).f2), .int .u32 ((rd_T31 l0_2 x86_1).f3), .int .i64 ((rd_T31 l0_2 x86_1).f4.f0), .int .u16 0]) ?_ 5 _ rfl; (with_reducible repeat (first | refine blk_drewN ?_ _ | refine blk_drew ?_ | refine blk_alloc ?_ _)); refine blk_put (cs := #[.int .u64 ((rd_T31 l0_2 x86_1).f0), .int .i64 ((rd_T31 l0_2 x86_1).f1), .int .u32 ((rd_T31 l0_2 x86_1).f2), .int .u32 ((rd_T31 l0_2 x86_1).f3), .int .i64 0, .int .u16 0]) ?_ 4 _ rfl; (with_reducible repeat (first | refine blk_drewN ?_ _ | refine blk_drew ?_ | refine blk_alloc ?_ _)); refine blk_put (cs := #[.int .u64 ((rd_T31 l0_2 x86_1).f0), .int .i64 ((rd_T31 l0_2 x86_1).f1), .int .u32 ((rd_T31 l0_2 x86_1).f2), .int .u32 0, .int .i64 0, .int .u16 0]) ?_ 3 _ rfl; (with_reducible repeat (first | refine blk_drewN ?_ _ | refine blk_drew ?_ | refine blk_alloc ?_ _)); refine blk_put (cs := #[.int .u64 ((rd_T31 l0_2 x86_1).f0), .int .i64 ((rd_T31 l0_2 x86_1).f1), .int .u32 0, .int .u32 0, .int .i64 0, .int .u16 0]) ?_ 2 _ rfl; (with_reducible repeat (first | refine blk_drewN ?_ _ | refine blk_drew ?_ | refine blk_alloc ?_ _)); refine blk_put (cs := #[.int .u64 ((rd_T31 l0_2 x86_1).f0), .int .i64 0, .int .u32 0, .int .u32 0, .int .i64 0, .int .u16 0]) ?_ 1 _ rfl; (with_reducible repeat (first | refine blk_drewN ?_ _ | refine blk_drew ?_ | refine blk_alloc ?_ _)); refine blk_put (cs := #[.int .u64 0, .int .i64 0, .int .u32 0, .int .u32 0, .int .i64 0, .int .u16 0]) ?_ 0 _ rfl; (with_reducible repeat (first | refine blk_drewN ?_ _ | refine blk_drew ?_ | refine blk_alloc ?_ _)); exact BK165.out) k_ hk⟩)); (case aO => exact (by (with_reducible repeat (first | apply Kd.R_alloc | apply Kd.R_drewN | apply Kd.R_drew)); exact Kd.R_mono (Kd.R_far (p := ⟨gb165, 5, none⟩) (Kd.R_far (p := ⟨gb165, 4, none⟩) (Kd.R_far (p := ⟨gb165, 3, none⟩) (Kd.R_far (p := ⟨gb165, 2, none⟩) (Kd.R_far (p := ⟨gb165, 1, none⟩) (Kd.R_far (p := ⟨gb165, 0, none⟩) (Kd.R_mono HO_16.out (fun k_ hk => (⟨hk, hk.2⟩ : _ ∧ k_ ≠ gb165))) (fun _ hk => hk.2) (.int .u64 ((rd_T31 l0_2 x86_1).f0))) (fun _ hk => hk.2) (.int .i64 ((rd_T31 l0_2 x86_1).f1))) (fun _ hk => hk.2) (.int .u32 ((rd_T31 l0_2 x86_1).f2))) (fun _ hk => hk.2) (.int .u32 ((rd_T31 l0_2 x86_1).f3))) (fun _ hk => hk.2) (.int .i64 ((rd_T31 l0_2 x86_1).f4.f0))) (fun _ hk => hk.2) (.int .u16 ((rd_T31 l0_2 x86_1).f4.f1))) (fun _ hk => ⟨hk.1.1.1, ⟨hk.1.1.2.1, ⟨hk.1.1.2.2, hk.1.2⟩⟩⟩))); (case aS => exact (below_size (by repeat (first | (with_reducible first | exact HB.out | apply below_alloc | apply pw_below_drewN | apply below_drew1 | refine below_set ?_ GE131.out | refine below_set ?_ GE165.out) | exact HB.out)))); (case aL => have := LMc42.out; omega); intro v167 w46 ho hb hg hat; rw [← Ny166.out] at ho; have n0_ := Aside0.mk (Kd.R_after (ok := (fun k_ => some k_ ≠ (v149 : Value).ownBlock ∧ some k_ ≠ (v161 : Value).ownBlock ∧ k_ ≠ gb165)) (by (with_reducible repeat (first | apply Kd.R_alloc | apply Kd.R_drewN | apply Kd.R_drew)); exact Kd.R_mono (Kd.R_far (p := ⟨gb165, 5, none⟩) (Kd.R_far (p := ⟨gb165, 4, none⟩) (Kd.R_far (p := ⟨gb165, 3, none⟩) (Kd.R_far (p := ⟨gb165, 2, none⟩) (Kd.R_far (p := ⟨gb165, 1, none⟩) (Kd.R_far (p := ⟨gb165, 0, none⟩) (Kd.R_mono HO_7.out (fun k_ hk => (⟨hk, hk.2⟩ : _ ∧ k_ ≠ gb165))) (fun _ hk => hk.2) (.int .u64 ((rd_T31 l0_2 x86_1).f0))) (fun _ hk => hk.2) (.int .i64 ((rd_T31 l0_2 x86_1).f1))) (fun _ hk => hk.2) (.int .u32 ((rd_T31 l0_2 x86_1).f2))) (fun _ hk => hk.2) (.int .u32 ((rd_T31 l0_2 x86_1).f3))) (fun _ hk => hk.2) (.int .i64 ((rd_T31 l0_2 x86_1).f4.f0))) (fun _ hk => hk.2) (.int .u16 ((rd_T31 l0_2 x86_1).f4.f1))) (fun _ hk => ⟨⟨hk.1.1.1, ⟨hk.1.1.2.1, hk.1.2⟩⟩, hk.1.1.2.2⟩)) hg hat); have n1_ := Aside0.mk (Kd.R_after (ok := (fun k_ => some k_ ≠ (v139 : Value).ownBlock ∧ some k_ ≠ (v161 : Value).ownBlock ∧ k_ ≠ gb165)) (by (with_reducible repeat (first | apply Kd.R_alloc | apply Kd.R_drewN | apply Kd.R_drew)); exact Kd.R_mono (Kd.R_far (p := ⟨gb165, 5, none⟩) (Kd.R_far (p := ⟨gb165, 4, none⟩) (Kd.R_far (p := ⟨gb165, 3, none⟩) (Kd.R_far (p := ⟨gb165, 2, none⟩) (Kd.R_far (p := ⟨gb165, 1, none⟩) (Kd.R_far (p := ⟨gb165, 0, none⟩) (Kd.R_mono HO_10.out (fun k_ hk => (⟨hk, hk.2⟩ : _ ∧ k_ ≠ gb165))) (fun _ hk => hk.2) (.int .u64 ((rd_T31 l0_2 x86_1).f0))) (fun _ hk => hk.2) (.int .i64 ((rd_T31 l0_2 x86_1).f1))) (fun _ hk => hk.2) (.int .u32 ((rd_T31 l0_2 x86_1).f2))) (fun _ hk => hk.2) (.int .u32 ((rd_T31 l0_2 x86_1).f3))) (fun _ hk => hk.2) (.int .i64 ((rd_T31 l0_2 x86_1).f4.f0))) (fun _ hk => hk.2) (.int .u16 ((rd_T31 l0_2 x86_1).f4.f1))) (fun _ hk => ⟨⟨hk.1.1.1, ⟨hk.1.1.2.1, hk.1.2⟩⟩, hk.1.1.2.2⟩)) hg hat); have n2_ := Aside0.mk (Kd.R_after (ok := (fun k_ => some k_ ≠ (v139 : Value).ownBlock ∧ some k_ ≠ (v149 : Value).ownBlock ∧ k_ ≠ gb165)) (by (with_reducible repeat (first | apply Kd.R_alloc | apply Kd.R_drewN | apply Kd.R_drew)); exact Kd.R_mono (Kd.R_far (p := ⟨gb165, 5, none⟩) (Kd.R_far (p := ⟨gb165, 4, none⟩) (Kd.R_far (p := ⟨gb165, 3, none⟩) (Kd.R_far (p := ⟨gb165, 2, none⟩) (Kd.R_far (p := ⟨gb165, 1, none⟩) (Kd.R_far (p := ⟨gb165, 0, none⟩) (Kd.R_mono HO_14.out (fun k_ hk => (⟨hk, hk.2⟩ : _ ∧ k_ ≠ gb165))) (fun _ hk => hk.2) (.int .u64 ((rd_T31 l0_2 x86_1).f0))) (fun _ hk => hk.2) (.int .i64 ((rd_T31 l0_2 x86_1).f1))) (fun _ hk => hk.2) (.int .u32 ((rd_T31 l0_2 x86_1).f2))) (fun _ hk => hk.2) (.int .u32 ((rd_T31 l0_2 x86_1).f3))) (fun _ hk => hk.2) (.int .i64 ((rd_T31 l0_2 x86_1).f4.f0))) (fun _ hk => hk.2) (.int .u16 ((rd_T31 l0_2 x86_1).f4.f1))) (fun _ hk => ⟨⟨hk.1.1.1, ⟨hk.1.1.2.1, hk.1.2⟩⟩, hk.1.1.2.2⟩)) hg hat); have n3_ := Aside0.mk (blk_grown (g := gb131) (o := .cells #[.int .i64 a0_0, .int .u64 a0_1, .slice (some ad164) l0_2.length c0_2] 25 (0, 0)) (by (with_reducible repeat (first | refine blk_drewN ?_ _ | refine blk_drew ?_ | refine blk_alloc ?_ _)); refine blk_far ?_ NB131_165.out _; (with_reducible repeat (first | refine blk_drewN ?_ _ | refine blk_drew ?_ | refine blk_alloc ?_ _)); refine blk_far ?_ NB131_165.out _; (with_reducible repeat (first | refine blk_drewN ?_ _ | refine blk_drew ?_ | refine blk_alloc ?_ _)); refine blk_far ?_ NB131_165.out _; (with_reducible repeat (first | refine blk_drewN ?_ _ | refine blk_drew ?_ | refine blk_alloc ?_ _)); refine blk_far ?_ NB131_165.out _; (with_reducible repeat (first | refine blk_drewN ?_ _ | refine blk_drew ?_ | refine blk_alloc ?_ _)); refine blk_far ?_ NB131_165.out _; (with_reducible repeat (first | refine blk_drewN ?_ _ | refine blk_drew ?_ | refine blk_alloc ?_ _)); refine blk_far ?_ NB131_165.out _; (with_reducible repeat (first | refine blk_drewN ?_ _ | refine blk_drew ?_ | refine blk_alloc ?_ _)); exact BK131.out) hg (Kd.R_ne HO_16.out BK131.out (by decide))); have n4_ := Aside0.mk (blk_grown (g := gb165) (o := .cells #[.int .u64 ((rd_T31 l0_2 x86_1).f0), .int .i64 ((rd_T31 l0_2 x86_1).f1), .int .u32 ((rd_T31 l0_2 x86_1).f2), .int .u32 ((rd_T31 l0_2 x86_1).f3), .int .i64 ((rd_T31 l0_2 x86_1).f4.f0), .int .u16 ((rd_T31 l0_2 x86_1).f4.f1)] 31 (0, 0)) (by (with_reducible repeat (first | refine blk_drewN ?_ _ | refine blk_drew ?_ | refine blk_alloc ?_ _)); refine blk_put (cs := #[.int .u64 ((rd_T31 l0_2 x86_1).f0), .int .i64 ((rd_T31 l0_2 x86_1).f1), .int .u32 ((rd_T31 l0_2 x86_1).f2), .int .u32 ((rd_T31 l0_2 x86_1).f3), .int .i64 ((rd_T31 l0_2 x86_1).f4.f0), .int .u16 0]) ?_ 5 _ rfl; (with_reducible repeat (first | refine blk_drewN ?_ _ | refine blk_drew ?_ | refine blk_alloc ?_ _)); refine blk_put (cs := #[.int .u64 ((rd_T31 l0_2 x86_1).f0), .int .i64 ((rd_T31 l0_2 x86_1).f1), .int .u32 ((rd_T31 l0_2 x86_1).f2), .int .u32 ((rd_T31 l0_2 x86_1).f3), .int .i64 0, .int .u16 0]) ?_ 4 _ rfl; (with_reducible repeat (first | refine blk_drewN ?_ _ | refine blk_drew ?_ | refine blk_alloc ?_ _)); refine blk_put (cs := #[.int .u64 ((rd_T31 l0_2 x86_1).f0), .int .i64 ((rd_T31 l0_2 x86_1).f1), .int .u32 ((rd_T31 l0_2 x86_1).f2), .int .u32 0, .int .i64 0, .int .u16 0]) ?_ 3 _ rfl; (with_reducible repeat (first | refine blk_drewN ?_ _ | refine blk_drew ?_ | refine blk_alloc ?_ _)); refine blk_put (cs := #[.int .u64 ((rd_T31 l0_2 x86_1).f0), .int .i64 ((rd_T31 l0_2 x86_1).f1), .int .u32 0, .int .u32 0, .int .i64 0, .int .u16 0]) ?_ 2 _ rfl; (with_reducible repeat (first | refine blk_drewN ?_ _ | refine blk_drew ?_ | refine blk_alloc ?_ _)); refine blk_put (cs := #[.int .u64 ((rd_T31 l0_2 x86_1).f0), .int .i64 0, .int .u32 0, .int .u32 0, .int .i64 0, .int .u16 0]) ?_ 1 _ rfl; (with_reducible repeat (first | refine blk_drewN ?_ _ | refine blk_drew ?_ | refine blk_alloc ?_ _)); refine blk_put (cs := #[.int .u64 0, .int .i64 0, .int .u32 0, .int .u32 0, .int .i64 0, .int .u16 0]) ?_ 0 _ rfl; (with_reducible repeat (first | refine blk_drewN ?_ _ | refine blk_drew ?_ | refine blk_alloc ?_ _)); exact BK165.out) hg (Kd.R_away HO_16.out (fun _ hk => hk.2))); have n5_ := Aside0.mk (hb); have n6_ := Aside0.mk (ho); clear HO_7; clear HO_10; clear HO_14; clear BK131; clear BK165; clear HB; clear HO_16; have HO_7 := n0_; have HO_10 := n1_; have HO_14 := n2_; have BK131 := n3_; have BK165 := n4_; have HB := n5_; have HO168 := n6_; clear n0_ n1_ n2_ n3_ n4_ n5_ n6_; clear ho hb hg hat))
           go_roundg k1
           case measure => have := HK1.out; omega
           case rel => exact ⟨(y166), (wrap64 (x86_1 + 1)), (by first | rfl | (simp; done) | (simp [*]; done)), H', ⟨by have := HK1.out; omega⟩, ⟨by (with_reducible repeat (first | apply Kd.R_alloc | apply Kd.R_drewN | apply Kd.R_drew)); exact Kd.R_mono HO_7.out (fun _ hk => ⟨hk.1.1, ⟨hk.1.2.1, hk.2⟩⟩)⟩, ⟨by (with_reducible repeat (first | apply Kd.R_alloc | apply Kd.R_drewN | apply Kd.R_drew)); exact Kd.R_mono HO_10.out (fun _ hk => ⟨hk.1.1, ⟨hk.1.2.1, hk.2⟩⟩)⟩, ⟨by (with_reducible repeat (first | apply Kd.R_alloc | apply Kd.R_drewN | apply Kd.R_drew)); exact Kd.R_mono HO_14.out (fun _ hk => ⟨hk.1.1, ⟨hk.1.2.1, hk.2⟩⟩)⟩, ⟨by (with_reducible repeat (first | apply Kd.R_alloc | apply Kd.R_drewN | apply Kd.R_drew)); exact Kd.R_mono HO168.out (fun _ hk => ⟨hk.1, ⟨hk.2.1, hk.2.2.1⟩⟩)⟩, ⟨by (with_reducible repeat (first | refine blk_drewN ?_ _ | refine blk_drew ?_ | refine blk_alloc ?_ _)); exact BK131.out⟩, ⟨by repeat (first | (with_reducible first | exact HB.out | apply below_alloc | apply pw_below_drewN | apply below_drew1 | refine below_set ?_ GE131.out | refine below_set ?_ GE165.out) | exact HB.out)⟩⟩
          ·rw [if_neg c42] at H
           exact absurd H (by simp)
         ·rw [if_neg c41] at H
          have c41b0 : (((rd_T31 l0_2 x86_1).f1) == a2) = false := beq_eq_false_iff_ne.mpr c41
          have c41b1 : (((rd_T31 l0_2 x86_1).f1) != a2) = true := bne_iff_ne.mpr c41
          have H' := Aside0.mk H
          clear H
          have p164 : 0 ≤ (x86_1 : Int) := of_decide_eq_true (by first | (with_reducible assumption) | assumption)
          have q164 : x86_1 < (l0_2.length : Int) := of_decide_eq_true (by first | (with_reducible assumption) | assumption)
          obtain ⟨ad164, e164, hx164_0, hx164_1, hx164_2, hx164_3, hx164_4, hx164_5⟩ := at_T31 HR0_2.out x86_1 p164 q164
          cases e164
          replace hx164_0 := (HB.out.cell (World.block_lt_of_cell? w _ hx164_0)).trans hx164_0
          replace hx164_1 := (HB.out.cell (World.block_lt_of_cell? w _ hx164_1)).trans hx164_1
          replace hx164_2 := (HB.out.cell (World.block_lt_of_cell? w _ hx164_2)).trans hx164_2
          replace hx164_3 := (HB.out.cell (World.block_lt_of_cell? w _ hx164_3)).trans hx164_3
          replace hx164_4 := (HB.out.cell (World.block_lt_of_cell? w _ hx164_4)).trans hx164_4
          replace hx164_5 := (HB.out.cell (World.block_lt_of_cell? w _ hx164_5)).trans hx164_5
          replace p164 := eq_true p164
          replace q164 := eq_true q164
          go_wp2_with (first | ((with_reducible refine gate_dst (N := 18) rfl ?_); (try (refine gate_guard (by rfl) ?_; dsimp only)); refine box_event ?hg (N := 18) ?hd (cs := #[.int .u64 0, .int .i64 0, .int .u32 0, .int .u32 0, .int .i64 0, .int .u16 0]) (t := 31) ?hr ?_; (case hd => rfl); (case hg => rfl); (case hr => first | (go_simp; done) | (go_simp; rfl)); intro gb165 hg w47 hbox hb; have n0_ := Aside0.mk (Kd.R_below (Kd.R_elderB (by (with_reducible repeat (first | apply Kd.R_alloc | apply Kd.R_drewN | apply Kd.R_drew)); exact HO_7.out) gb165 (Nat.le_of_eq hg.symm)) hb); have n1_ := Aside0.mk (Kd.R_below (Kd.R_elderB (by (with_reducible repeat (first | apply Kd.R_alloc | apply Kd.R_drewN | apply Kd.R_drew)); exact HO_10.out) gb165 (Nat.le_of_eq hg.symm)) hb); have n2_ := Aside0.mk (Kd.R_below (Kd.R_elderB (by (with_reducible repeat (first | apply Kd.R_alloc | apply Kd.R_drewN | apply Kd.R_drew)); exact HO_14.out) gb165 (Nat.le_of_eq hg.symm)) hb); have n3_ := Aside0.mk (Kd.R_below (Kd.R_elderB (by (with_reducible repeat (first | apply Kd.R_alloc | apply Kd.R_drewN | apply Kd.R_drew)); exact HO_16.out) gb165 (Nat.le_of_eq hg.symm)) hb); have n4_ := Aside0.mk (blk_below (g := gb131) (o := .cells #[.int .i64 a0_0, .int .u64 a0_1, .slice (some ad164) l0_2.length c0_2] 25 (0, 0)) (by (with_reducible repeat (first | refine blk_drewN ?_ _ | refine blk_drew ?_ | refine blk_alloc ?_ _)); exact BK131.out) hb); have n5_ := Aside0.mk (below_step (by repeat (first | (with_reducible first | exact HB.out | apply below_alloc | apply pw_below_drewN | apply below_drew1 | refine below_set ?_ GE131.out) | exact HB.out)) hb); have n6_ := Aside0.mk (hbox); have n7_ := Aside0.mk ((by rw [hg]; exact (below_size (by repeat (first | (with_reducible first | exact HB.out | apply below_alloc | apply pw_below_drewN | apply below_drew1 | refine below_set ?_ GE131.out) | exact HB.out))) : w.heap.size ≤ gb165)); have n8_ := Aside0.mk ((by rw [hg]; exact (below_size (by repeat (first | (with_reducible first | exact HB.out | apply below_alloc | apply pw_below_drewN | apply below_drew1 | refine below_set ?_ GE131.out) | exact HB.out))) : w.heap.size ≤ gb165)); have n9_ := Aside0.mk ((by rw [hg]; exact Nat.ne_of_lt (blk_lt (g := gb131) (o := .cells #[.int .i64 a0_0, .int .u64 a0_1, .slice (some ad164) l0_2.length c0_2] 25 (0, 0)) (by (with_reducible repeat (first | refine blk_drewN ?_ _ | refine blk_drew ?_ | refine blk_alloc ?_ _)); exact BK131.out)) : gb131 ≠ gb165)); have n10_ := Aside0.mk ((by rw [hg]; exact Nat.ne_of_gt (blk_lt (g := gb131) (o := .cells #[.int .i64 a0_0, .int .u64 a0_1, .slice (some ad164) l0_2.length c0_2] 25 (0, 0)) (by (with_reducible repeat (first | refine blk_drewN ?_ _ | refine blk_drew ?_ | refine blk_alloc ?_ _)); exact BK131.out)) : gb165 ≠ gb131)); clear HO_7; clear HO_10; clear HO_14; clear HO_16; clear BK131; clear HB; have HO_7 := n0_; have HO_10 := n1_; have HO_14 := n2_; have HO_16 := n3_; have BK131 := n4_; have HB := n5_; have BK165 := n6_; have GW165 := n7_; have GE165 := n8_; have NB131_165 := n9_; have NB165_131 := n10_; clear n0_ n1_ n2_ n3_ n4_ n5_ n6_ n7_ n8_ n9_ n10_; clear hb hbox hg; have hnb48 := NB165_131.out; have hnc48 := NB131_165.out; have hcz49_0 : w47.cell? ⟨gb165, 0, none⟩ = some (.int .u64 0) := (blk_cell BK165.out 0).trans rfl; have hcz49_1 : w47.cell? ⟨gb165, 1, none⟩ = some (.int .i64 0) := (blk_cell BK165.out 1).trans rfl; have hcz49_2 : w47.cell? ⟨gb165, 2, none⟩ = some (.int .u32 0) := (blk_cell BK165.out 2).trans rfl; have hcz49_3 : w47.cell? ⟨gb165, 3, none⟩ = some (.int .u32 0) := (blk_cell BK165.out 3).trans rfl; have hcz49_4 : w47.cell? ⟨gb165, 4, none⟩ = some (.int .i64 0) := (blk_cell BK165.out 4).trans rfl; have hcz49_5 : w47.cell? ⟨gb165, 5, none⟩ = some (.int .u16 0) := (blk_cell BK165.out 5).trans rfl; have hfz49_0 := blk_frozen BK165.out 0; have hfz49_1 := blk_frozen BK165.out 1; have hfz49_2 := blk_frozen BK165.out 2; have hfz49_3 := blk_frozen BK165.out 3; have hfz49_4 := blk_frozen BK165.out 4; have hfz49_5 := blk_frozen BK165.out 5))
          go_roundg k1
          case measure => have := HK1.out; omega
          case rel => exact ⟨(x16_1), (wrap64 (x86_1 + 1)), (by first | rfl | (simp; done) | (simp [*]; done)), H', ⟨by have := HK1.out; omega⟩, ⟨by (with_reducible repeat (first | apply Kd.R_alloc | apply Kd.R_drewN | apply Kd.R_drew)); exact Kd.R_mono (Kd.R_far (p := ⟨gb165, 5, none⟩) (Kd.R_far (p := ⟨gb165, 4, none⟩) (Kd.R_far (p := ⟨gb165, 3, none⟩) (Kd.R_far (p := ⟨gb165, 2, none⟩) (Kd.R_far (p := ⟨gb165, 1, none⟩) (Kd.R_far (p := ⟨gb165, 0, none⟩) (Kd.R_mono HO_7.out (fun k_ hk => (⟨hk, hk.2⟩ : _ ∧ k_ ≠ gb165))) (fun _ hk => hk.2) (.int .u64 ((rd_T31 l0_2 x86_1).f0))) (fun _ hk => hk.2) (.int .i64 ((rd_T31 l0_2 x86_1).f1))) (fun _ hk => hk.2) (.int .u32 ((rd_T31 l0_2 x86_1).f2))) (fun _ hk => hk.2) (.int .u32 ((rd_T31 l0_2 x86_1).f3))) (fun _ hk => hk.2) (.int .i64 ((rd_T31 l0_2 x86_1).f4.f0))) (fun _ hk => hk.2) (.int .u16 ((rd_T31 l0_2 x86_1).f4.f1))) (fun _ hk => ⟨hk.1.1.1, ⟨hk.1.1.2.1, hk.1.1.2.2⟩⟩)⟩, ⟨by (with_reducible repeat (first | apply Kd.R_alloc | apply Kd.R_drewN | apply Kd.R_drew)); exact Kd.R_mono (Kd.R_far (p := ⟨gb165, 5, none⟩) (Kd.R_far (p := ⟨gb165, 4, none⟩) (Kd.R_far (p := ⟨gb165, 3, none⟩) (Kd.R_far (p := ⟨gb165, 2, none⟩) (Kd.R_far (p := ⟨gb165, 1, none⟩) (Kd.R_far (p := ⟨gb165, 0, none⟩) (Kd.R_mono HO_10.out (fun k_ hk => (⟨hk, hk.2⟩ : _ ∧ k_ ≠ gb165))) (fun _ hk => hk.2) (.int .u64 ((rd_T31 l0_2 x86_1).f0))) (fun _ hk => hk.2) (.int .i64 ((rd_T31 l0_2 x86_1).f1))) (fun _ hk => hk.2) (.int .u32 ((rd_T31 l0_2 x86_1).f2))) (fun _ hk => hk.2) (.int .u32 ((rd_T31 l0_2 x86_1).f3))) (fun _ hk => hk.2) (.int .i64 ((rd_T31 l0_2 x86_1).f4.f0))) (fun _ hk => hk.2) (.int .u16 ((rd_T31 l0_2 x86_1).f4.f1))) (fun _ hk => ⟨hk.1.1.1, ⟨hk.1.1.2.1, hk.1.1.2.2⟩⟩)⟩, ⟨by (with_reducible repeat (first | apply Kd.R_alloc | apply Kd.R_drewN | apply Kd.R_drew)); exact Kd.R_mono (Kd.R_far (p := ⟨gb165, 5, none⟩) (Kd.R_far (p := ⟨gb165, 4, none⟩) (Kd.R_far (p := ⟨gb165, 3, none⟩) (Kd.R_far (p := ⟨gb165, 2, none⟩) (Kd.R_far (p := ⟨gb165, 1, none⟩) (Kd.R_far (p := ⟨gb165, 0, none⟩) (Kd.R_mono HO_14.out (fun k_ hk => (⟨hk, hk.2⟩ : _ ∧ k_ ≠ gb165))) (fun _ hk => hk.2) (.int .u64 ((rd_T31 l0_2 x86_1).f0))) (fun _ hk => hk.2) (.int .i64 ((rd_T31 l0_2 x86_1).f1))) (fun _ hk => hk.2) (.int .u32 ((rd_T31 l0_2 x86_1).f2))) (fun _ hk => hk.2) (.int .u32 ((rd_T31 l0_2 x86_1).f3))) (fun _ hk => hk.2) (.int .i64 ((rd_T31 l0_2 x86_1).f4.f0))) (fun _ hk => hk.2) (.int .u16 ((rd_T31 l0_2 x86_1).f4.f1))) (fun _ hk => ⟨hk.1.1.1, ⟨hk.1.1.2.1, hk.1.1.2.2⟩⟩)⟩, ⟨by (with_reducible repeat (first | apply Kd.R_alloc | apply Kd.R_drewN | apply Kd.R_drew)); exact Kd.R_mono (Kd.R_far (p := ⟨gb165, 5, none⟩) (Kd.R_far (p := ⟨gb165, 4, none⟩) (Kd.R_far (p := ⟨gb165, 3, none⟩) (Kd.R_far (p := ⟨gb165, 2, none⟩) (Kd.R_far (p := ⟨gb165, 1, none⟩) (Kd.R_far (p := ⟨gb165, 0, none⟩) (Kd.R_mono HO_16.out (fun k_ hk => (⟨hk, hk.2⟩ : _ ∧ k_ ≠ gb165))) (fun _ hk => hk.2) (.int .u64 ((rd_T31 l0_2 x86_1).f0))) (fun _ hk => hk.2) (.int .i64 ((rd_T31 l0_2 x86_1).f1))) (fun _ hk => hk.2) (.int .u32 ((rd_T31 l0_2 x86_1).f2))) (fun _ hk => hk.2) (.int .u32 ((rd_T31 l0_2 x86_1).f3))) (fun _ hk => hk.2) (.int .i64 ((rd_T31 l0_2 x86_1).f4.f0))) (fun _ hk => hk.2) (.int .u16 ((rd_T31 l0_2 x86_1).f4.f1))) (fun _ hk => ⟨hk.1.1.1, ⟨hk.1.1.2.1, hk.1.1.2.2⟩⟩)⟩, ⟨by (with_reducible repeat (first | refine blk_drewN ?_ _ | refine blk_drew ?_ | refine blk_alloc ?_ _)); refine blk_far ?_ NB131_165.out _; (with_reducible repeat (first | refine blk_drewN ?_ _ | refine blk_drew ?_ | refine blk_alloc ?_ _)); refine blk_far ?_ NB131_165.out _; (with_reducible repeat (first | refine blk_drewN ?_ _ | refine blk_drew ?_ | refine blk_alloc ?_ _)); refine blk_far ?_ NB131_165.out _; (with_reducible repeat (first | refine blk_drewN ?_ _ | refine blk_drew ?_ | refine blk_alloc ?_ _)); refine blk_far ?_ NB131_165.out _; (with_reducible repeat (first | refine blk_drewN ?_ _ | refine blk_drew ?_ | refine blk_alloc ?_ _)); refine blk_far ?_ NB131_165.out _; (with_reducible repeat (first | refine blk_drewN ?_ _ | refine blk_drew ?_ | refine blk_alloc ?_ _)); refine blk_far ?_ NB131_165.out _; (with_reducible repeat (first | refine blk_drewN ?_ _ | refine blk_drew ?_ | refine blk_alloc ?_ _)); exact BK131.out⟩, ⟨by repeat (first | (with_reducible first | exact HB.out | apply below_alloc | apply pw_below_drewN | apply below_drew1 | refine below_set ?_ GE131.out | refine below_set ?_ GE165.out) | exact HB.out)⟩⟩
        ·rw [if_neg c40] at H
         exact absurd H (by simp)
       ·rw [if_neg c39] at H
        exact absurd H (by simp)
      ·rw [if_neg c38] at H
       have c38b0 : decide (x86_1 < (l0_2.length : Int)) = false := decide_eq_false c38
       clear c38
       by_cases c50 : t142 = 0
       ·rw [if_pos c50] at H
        have c50b0 : (t142 == 0) = true := beq_iff_eq.mpr c50
        have c50b1 : (t142 != 0) = false := bne_eq_false_iff_eq.mpr c50
        clear c50
        by_cases c51 : t151 = 0
        ·rw [if_pos c51] at H
         have c51b0 : (t151 == 0) = true := beq_iff_eq.mpr c51
         have c51b1 : (t151 != 0) = false := bne_eq_false_iff_eq.mpr c51
         clear c51
         by_cases c52 : t158 = 0
         ·rw [if_pos c52] at H
          have c52b0 : (t158 == 0) = true := beq_iff_eq.mpr c52
          have c52b1 : (t158 != 0) = false := bne_eq_false_iff_eq.mpr c52
          clear c52
          replace H := Option.bind_eq_some_iff.mp H
          obtain ⟨t169, A530, H⟩ := H
          replace H : (if t169 = true then (if t141 = t163 then ((wicketgateref27_SameLines.f t148 x16_1).bind fun t170 => (if t170 = true then (some (t157 == (IntKind.u64.wrap ((IntKind.u64.wrap (a0_1 - 1)) - (IntKind.u64.wrap ((l0_2.length : Int))))))) else (some false))) else (some false)) else (some false)) = some r := H
          have A53 := Aside0.mk A530
          clear A530
          by_cases c54 : t169 = true
          ·subst c54
           have H1 : (if t141 = t163 then ((wicketgateref27_SameLines.f t148 x16_1).bind fun t170 => (if t170 = true then (some (t157 == (IntKind.u64.wrap ((IntKind.u64.wrap (a0_1 - 1)) - (IntKind.u64.wrap ((l0_2.length : Int))))))) else (some false))) else (some false)) = some r := by rw [if_pos rfl] at H; exact H
           clear H
           have H := H1
           clear H1
           by_cases c55 : t141 = t163
           ·rw [if_pos c55] at H
            have c55b0 : (t141 == t163) = true := beq_iff_eq.mpr c55
            have c55b1 : (t141 != t163) = false := bne_eq_false_iff_eq.mpr c55
            clear c55
            replace H := Option.bind_eq_some_iff.mp H
            obtain ⟨t170, A560, H⟩ := H
            replace H : (if t170 = true then (some (t157 == (IntKind.u64.wrap ((IntKind.u64.wrap (a0_1 - 1)) - (IntKind.u64.wrap ((l0_2.length : Int))))))) else (some false)) = some r := H
            have A56 := Aside0.mk A560
            clear A560
            by_cases c57 : t170 = true
            ·subst c57
             have H1 : (some (t157 == (IntKind.u64.wrap ((IntKind.u64.wrap (a0_1 - 1)) - (IntKind.u64.wrap ((l0_2.length : Int))))))) = some r := by rw [if_pos rfl] at H; exact H
             clear H
             have H := H1
             clear H1
             obtain rfl := Option.some.inj H
             obtain ⟨Ao58, co58, eo58⟩ := Kd.R_slice HO_7.out
             subst eo58
             obtain ⟨Ao59, co59, eo59⟩ := Kd.R_slice HO_14.out
             subst eo59
             go_wp2_with (first | (go_at_call 25; (with_reducible refine (wicketgateref27_SameLines.calls _ _ t138 _ _ t160 true _ ?side1 ?side2 ?side3 ?side4 A53.out).mono ?_); (case side1 => repeat (first | exact (Kd.R_reads' HO_7.out).2.2 | (with_reducible refine Kd.C_alloc ?_ _) | (with_reducible refine Kd.C_drewN ?_ _) | (with_reducible refine Kd.C_drew ?_))); (case side2 => exact (Kd.R_reads' HO_7.out).2.1); (case side3 => repeat (first | exact (Kd.R_reads' HO_14.out).2.2 | (with_reducible refine Kd.C_alloc ?_ _) | (with_reducible refine Kd.C_drewN ?_ _) | (with_reducible refine Kd.C_drew ?_))); (case side4 => exact (Kd.R_reads' HO_14.out).2.1); rintro e w' ⟨rfl, ⟨nd, rfl⟩⟩; obtain ⟨Ao60, co60, eo60⟩ := Kd.R_slice HO_10.out; subst eo60; obtain ⟨Ao61, co61, eo61⟩ := Kd.R_slice HO_16.out; subst eo61) | (go_at_call 25; (with_reducible refine (wicketgateref27_SameLines.calls _ _ t148 _ _ x16_1 true _ ?side1 ?side2 ?side3 ?side4 A56.out).mono ?_); (case side1 => repeat (first | exact (Kd.R_reads' HO_10.out).2.2 | (with_reducible refine Kd.C_alloc ?_ _) | (with_reducible refine Kd.C_drewN ?_ _) | (with_reducible refine Kd.C_drew ?_))); (case side2 => exact (Kd.R_reads' HO_10.out).2.1); (case side3 => repeat (first | exact (Kd.R_reads' HO_16.out).2.2 | (with_reducible refine Kd.C_alloc ?_ _) | (with_reducible refine Kd.C_drewN ?_ _) | (with_reducible refine Kd.C_drew ?_))); (case side4 => exact (Kd.R_reads' HO_16.out).2.1); rintro e w' ⟨rfl, ⟨nd, rfl⟩⟩; have hcz62_0 : wr.cell? ⟨gb131, 0, none⟩ = some (.int .i64 a0_0) := (blk_cell BK131.out 0).trans rfl; have hcz62_1 : wr.cell? ⟨gb131, 1, none⟩ = some (.int .u64 a0_1) := (blk_cell BK131.out 1).trans rfl; have hcz62_2 : wr.cell? ⟨gb131, 2, none⟩ = some (.slice A0_2 l0_2.length c0_2) := (blk_cell BK131.out 2).trans rfl; have hfz62_0 := blk_frozen BK131.out 0; have hfz62_1 := blk_frozen BK131.out 1; have hfz62_2 := blk_frozen BK131.out 2))
             go_ret
             exact ⟨by first | rfl | (simp [errW_none, errW_some] <;> rfl) | (simp [*, errW_none, errW_some] <;> rfl), by repeat (first | (with_reducible first | exact HB.out | apply below_alloc | apply pw_below_drewN | apply below_drew1 | refine below_set ?_ GE131.out) | exact HB.out)⟩
            ·replace c57 := Bool.eq_false_iff.mpr c57
             subst c57
             have H1 : (some false) = some r := by rw [if_neg (show ¬ (false = true) by decide)] at H; exact H
             clear H
             have H := H1
             clear H1
             exact absurd ((Option.some.inj H).trans HRr.out) (by simp)
           ·rw [if_neg c55] at H
            have c55b0 : (t141 == t163) = false := beq_eq_false_iff_ne.mpr c55
            have c55b1 : (t141 != t163) = true := bne_iff_ne.mpr c55
            exact absurd ((Option.some.inj H).trans HRr.out) (by simp)
          ·replace c54 := Bool.eq_false_iff.mpr c54
           subst c54
           have H1 : (some false) = some r := by rw [if_neg (show ¬ (false = true) by decide)] at H; exact H
           clear H
           have H := H1
           clear H1
           exact absurd ((Option.some.inj H).trans HRr.out) (by simp)
         ·rw [if_neg c52] at H
          have c52b0 : (t158 == 0) = false := beq_eq_false_iff_ne.mpr c52
          have c52b1 : (t158 != 0) = true := bne_iff_ne.mpr c52
          exact absurd ((Option.some.inj H).trans HRr.out) (by simp)
        ·rw [if_neg c51] at H
         have c51b0 : (t151 == 0) = false := beq_eq_false_iff_ne.mpr c51
         have c51b1 : (t151 != 0) = true := bne_iff_ne.mpr c51
         exact absurd ((Option.some.inj H).trans HRr.out) (by simp)
       ·rw [if_neg c50] at H
        have c50b0 : (t142 == 0) = false := beq_eq_false_iff_ne.mpr c50
        have c50b1 : (t142 != 0) = true := bne_iff_ne.mpr c50
        exact absurd ((Option.some.inj H).trans HRr.out) (by simp)
   ·replace c17 := Bool.eq_false_iff.mpr c17
    subst c17
    have H1 : (if (t138.length : Int) = 0 then (if t141 = 0 then (if t142 = 370 then (if (t148.length : Int) = 0 then (if t151 = 370 then (if t157 = 0 then (some (t158 == 370)) else (some false)) else (some false)) else (some false)) else (some false)) else (some false)) else (some false)) = some r := by rw [if_neg (show ¬ (false = true) by decide)] at H; exact H
    clear H
    have H := H1
    clear H1
    by_cases c63 : (t138.length : Int) = 0
    ·rw [if_pos c63] at H
     have c63b0 : ((t138.length : Int) == 0) = true := beq_iff_eq.mpr c63
     have c63b1 : ((t138.length : Int) != 0) = false := bne_eq_false_iff_eq.mpr c63
     clear c63
     by_cases c64 : t141 = 0
     ·rw [if_pos c64] at H
      have c64b0 : (t141 == 0) = true := beq_iff_eq.mpr c64
      have c64b1 : (t141 != 0) = false := bne_eq_false_iff_eq.mpr c64
      clear c64
      by_cases c65 : t142 = 370
      ·rw [if_pos c65] at H
       have c65b0 : (t142 == 370) = true := beq_iff_eq.mpr c65
       have c65b1 : (t142 != 370) = false := bne_eq_false_iff_eq.mpr c65
       clear c65
       by_cases c66 : (t148.length : Int) = 0
       ·rw [if_pos c66] at H
        have c66b0 : ((t148.length : Int) == 0) = true := beq_iff_eq.mpr c66
        have c66b1 : ((t148.length : Int) != 0) = false := bne_eq_false_iff_eq.mpr c66
        clear c66
        by_cases c67 : t151 = 370
        ·rw [if_pos c67] at H
         have c67b0 : (t151 == 370) = true := beq_iff_eq.mpr c67
         have c67b1 : (t151 != 370) = false := bne_eq_false_iff_eq.mpr c67
         clear c67
         by_cases c68 : t157 = 0
         ·rw [if_pos c68] at H
          have c68b0 : (t157 == 0) = true := beq_iff_eq.mpr c68
          have c68b1 : (t157 != 0) = false := bne_eq_false_iff_eq.mpr c68
          clear c68
          obtain rfl := Option.some.inj H
          go_enter Tryd.func7, Tryd.ntmps7
          go_wp2_with (first | ((with_reducible refine gate_dst (N := 3) rfl ?_); (try (refine gate_guard (by rfl) ?_; dsimp only)); refine box_event ?hg (N := 3) ?hd (cs := #[.int .i64 a0_0, .int .u64 a0_1, .slice A0_2 l0_2.length c0_2]) (t := 25) ?hr ?_; (case hd => rfl); (case hg => rfl); (case hr => first | (go_simp; done) | (go_simp; rfl)); intro gb131 hg w69 hbox hb; have n0_ := Aside0.mk (below_step (by repeat (first | (with_reducible first | exact HB.out | apply below_alloc | apply pw_below_drewN | apply below_drew1) | exact HB.out)) hb); have n1_ := Aside0.mk (hbox); have n2_ := Aside0.mk ((by rw [hg]; exact (below_size (by repeat (first | (with_reducible first | exact HB.out | apply below_alloc | apply pw_below_drewN | apply below_drew1) | exact HB.out))) : w.heap.size ≤ gb131)); have n3_ := Aside0.mk ((by rw [hg]; exact (below_size (by repeat (first | (with_reducible first | exact HB.out | apply below_alloc | apply pw_below_drewN | apply below_drew1) | exact HB.out))) : w.heap.size ≤ gb131)); clear HB; have HB := n0_; have BK131 := n1_; have GW131 := n2_; have GE131 := n3_; clear n0_ n1_ n2_ n3_; clear hb hbox hg) | ((with_reducible refine gate_callee (f := 9) rfl ?_); refine goesL_ (some 19) rfl rfl Tryd.func9 (by kernel_rfl) rfl #[] rfl (by (try simp only [List.map_toArray, List.map_cons, List.map_nil]); first | done | rfl | (simp only [List.length_drop, List.length_take]; rfl)) ?_; (with_reducible refine (wicketgatelaw27_wakes.calls  true _ A4.out).mono ?_); rintro e w70 ⟨rfl, hb⟩; refine ⟨_, rfl, ?_⟩; have n0_ := Aside0.mk (blk_below (g := gb131) (o := .cells #[.int .i64 a0_0, .int .u64 a0_1, .slice A0_2 l0_2.length c0_2] 25 (0, 0)) (by (with_reducible repeat (first | refine blk_drewN ?_ _ | refine blk_drew ?_ | refine blk_alloc ?_ _)); exact BK131.out) hb); have n1_ := Aside0.mk (below_step (by repeat (first | (with_reducible first | exact HB.out | apply below_alloc | apply pw_below_drewN | apply below_drew1 | refine below_set ?_ GE131.out) | exact HB.out)) hb); clear BK131; clear HB; have BK131 := n0_; have HB := n1_; clear n0_ n1_; (try clear hb); (try clear hb2); (try clear hk); (try clear hi); have hcz71_0 : w70.cell? ⟨gb131, 0, none⟩ = some (.int .i64 a0_0) := (blk_cell BK131.out 0).trans rfl; have hcz71_1 : w70.cell? ⟨gb131, 1, none⟩ = some (.int .u64 a0_1) := (blk_cell BK131.out 1).trans rfl; have hcz71_2 : w70.cell? ⟨gb131, 2, none⟩ = some (.slice A0_2 l0_2.length c0_2) := (blk_cell BK131.out 2).trans rfl; have hfz71_0 := blk_frozen BK131.out 0; have hfz71_1 := blk_frozen BK131.out 1; have hfz71_2 := blk_frozen BK131.out 2) | ((with_reducible refine gate_callee (f := 10) rfl ?_); refine goesL_ (some 27) rfl rfl Tryd.func10 (by kernel_rfl) rfl #[.agg #[.int .i64 a0_0, .int .u64 a0_1, .slice A0_2 l0_2.length c0_2]] rfl (by (try simp only [List.map_toArray, List.map_cons, List.map_nil]); first | done | rfl | (simp only [List.length_drop, List.length_take]; rfl)) ?_; (with_reducible refine (wicketgatelaw27_copied.calls a0_0 a0_1 _ _ l0_2 t133 t134 t135 _ ?side1 ?side2 A10.out).mono ?_); (case side1 => repeat (first | exact (Kd.C_below HR0_2.out HB.out) | (with_reducible refine Kd.C_alloc ?_ _) | (with_reducible refine Kd.C_drewN ?_ _) | (with_reducible refine Kd.C_drew ?_))); (case side2 => exact HC0_2.out); rintro e w72 ⟨v136, rfl, ho0, hb⟩; refine ⟨_, rfl, ?_⟩; have n0_ := Aside0.mk (Kd.R_lower ho0 (below_size (by repeat (first | (with_reducible first | exact HB.out | apply below_alloc | apply pw_below_drewN | apply below_drew1 | refine below_set ?_ GE131.out) | exact HB.out)))); have n1_ := Aside0.mk (blk_below (g := gb131) (o := .cells #[.int .i64 a0_0, .int .u64 a0_1, .slice A0_2 l0_2.length c0_2] 25 (0, 0)) (by (with_reducible repeat (first | refine blk_drewN ?_ _ | refine blk_drew ?_ | refine blk_alloc ?_ _)); exact BK131.out) hb); have n2_ := Aside0.mk (below_step (by repeat (first | (with_reducible first | exact HB.out | apply below_alloc | apply pw_below_drewN | apply below_drew1 | refine below_set ?_ GE131.out) | exact HB.out)) hb); clear BK131; clear HB; have HO137 := n0_; have BK131 := n1_; have HB := n2_; clear n0_ n1_ n2_; (try clear hb); (try clear hb2); (try clear hk); (try clear hi); (try clear ho0); obtain ⟨Ao73, co73, eo73⟩ := Kd.R_slice HO137.out; subst eo73) | ((with_reducible refine gate_callee (f := 22) rfl ?_); refine goesL_ (some 29) rfl rfl Tryd.func22 (by kernel_rfl) rfl #[.agg #[.int .i64 t133, .int .u64 t134, .slice Ao73 t135.length co73], .int .u64 a1] rfl (by (try simp only [List.map_toArray, List.map_cons, List.map_nil]); first | done | rfl | (simp only [List.length_drop, List.length_take]; rfl)) ?_; (with_reducible refine (log_Since.calls t133 t134 _ _ t135 a1 t138 t141 t142 _ ?side1 ?side2 A11.out).mono ?_); (case side1 => repeat (first | exact (Kd.R_reads' HO137.out).2.2 | (with_reducible refine Kd.C_alloc ?_ _) | (with_reducible refine Kd.C_drewN ?_ _) | (with_reducible refine Kd.C_drew ?_))); (case side2 => exact (Kd.R_reads' HO137.out).2.1); rintro e w74 ⟨v139, rfl, ho0, hb⟩; refine ⟨_, rfl, ?_⟩; have n0_ := Aside0.mk (Kd.R_elder' (by (with_reducible repeat (first | apply Kd.R_alloc | apply Kd.R_drewN | apply Kd.R_drew)); exact HO137.out) (Kd.R_base ho0) hb); have n1_ := Aside0.mk (Kd.R_lower (Kd.R_new' ho0 (Kd.R_lt (by (with_reducible repeat (first | apply Kd.R_alloc | apply Kd.R_drewN | apply Kd.R_drew)); exact HO137.out))) (below_size (by repeat (first | (with_reducible first | exact HB.out | apply below_alloc | apply pw_below_drewN | apply below_drew1 | refine below_set ?_ GE131.out) | exact HB.out)))); have n2_ := Aside0.mk (blk_below (g := gb131) (o := .cells #[.int .i64 a0_0, .int .u64 a0_1, .slice A0_2 l0_2.length c0_2] 25 (0, 0)) (by (with_reducible repeat (first | refine blk_drewN ?_ _ | refine blk_drew ?_ | refine blk_alloc ?_ _)); exact BK131.out) hb); have n3_ := Aside0.mk (below_step (by repeat (first | (with_reducible first | exact HB.out | apply below_alloc | apply pw_below_drewN | apply below_drew1 | refine below_set ?_ GE131.out) | exact HB.out)) hb); clear HO137; clear BK131; clear HB; have HO137 := n0_; have HO140 := n1_; have BK131 := n2_; have HB := n3_; clear n0_ n1_ n2_ n3_; (try clear hb); (try clear hb2); (try clear hk); (try clear hi); (try clear ho0); have hcz75_0 : w74.cell? ⟨gb131, 0, none⟩ = some (.int .i64 a0_0) := (blk_cell BK131.out 0).trans rfl; have hcz75_1 : w74.cell? ⟨gb131, 1, none⟩ = some (.int .u64 a0_1) := (blk_cell BK131.out 1).trans rfl; have hcz75_2 : w74.cell? ⟨gb131, 2, none⟩ = some (.slice A0_2 l0_2.length c0_2) := (blk_cell BK131.out 2).trans rfl; have hfz75_0 := blk_frozen BK131.out 0; have hfz75_1 := blk_frozen BK131.out 1; have hfz75_2 := blk_frozen BK131.out 2) | ((with_reducible refine gate_callee (f := 10) rfl ?_); refine goesL_ (some 35) rfl rfl Tryd.func10 (by kernel_rfl) rfl #[.agg #[.int .i64 a0_0, .int .u64 a0_1, .slice A0_2 l0_2.length c0_2]] rfl (by (try simp only [List.map_toArray, List.map_cons, List.map_nil]); first | done | rfl | (simp only [List.length_drop, List.length_take]; rfl)) ?_; (with_reducible refine (wicketgatelaw27_copied.calls a0_0 a0_1 _ _ l0_2 t143 t144 t145 _ ?side1 ?side2 A12.out).mono ?_); (case side1 => repeat (first | exact (Kd.C_below HR0_2.out HB.out) | (with_reducible refine Kd.C_alloc ?_ _) | (with_reducible refine Kd.C_drewN ?_ _) | (with_reducible refine Kd.C_drew ?_))); (case side2 => exact HC0_2.out); rintro e w76 ⟨v146, rfl, ho0, hb⟩; refine ⟨_, rfl, ?_⟩; have n0_ := Aside0.mk (Kd.R_elder' (by (with_reducible repeat (first | apply Kd.R_alloc | apply Kd.R_drewN | apply Kd.R_drew)); exact HO137.out) (Kd.R_base ho0) hb); have n1_ := Aside0.mk (Kd.R_elder' (by (with_reducible repeat (first | apply Kd.R_alloc | apply Kd.R_drewN | apply Kd.R_drew)); exact HO140.out) (Kd.R_base ho0) hb); have n2_ := Aside0.mk (Kd.R_lower (Kd.R_new' (Kd.R_new' ho0 (Kd.R_lt (by (with_reducible repeat (first | apply Kd.R_alloc | apply Kd.R_drewN | apply Kd.R_drew)); exact HO137.out))) (Kd.R_lt (by (with_reducible repeat (first | apply Kd.R_alloc | apply Kd.R_drewN | apply Kd.R_drew)); exact HO140.out))) (below_size (by repeat (first | (with_reducible first | exact HB.out | apply below_alloc | apply pw_below_drewN | apply below_drew1 | refine below_set ?_ GE131.out) | exact HB.out)))); have n3_ := Aside0.mk (blk_below (g := gb131) (o := .cells #[.int .i64 a0_0, .int .u64 a0_1, .slice A0_2 l0_2.length c0_2] 25 (0, 0)) (by (with_reducible repeat (first | refine blk_drewN ?_ _ | refine blk_drew ?_ | refine blk_alloc ?_ _)); exact BK131.out) hb); have n4_ := Aside0.mk (below_step (by repeat (first | (with_reducible first | exact HB.out | apply below_alloc | apply pw_below_drewN | apply below_drew1 | refine below_set ?_ GE131.out) | exact HB.out)) hb); clear HO137; clear HO140; clear BK131; clear HB; have HO137 := n0_; have HO140 := n1_; have HO147 := n2_; have BK131 := n3_; have HB := n4_; clear n0_ n1_ n2_ n3_ n4_; (try clear hb); (try clear hb2); (try clear hk); (try clear hi); (try clear ho0); obtain ⟨Ao77, co77, eo77⟩ := Kd.R_slice HO147.out; subst eo77) | ((with_reducible refine gate_callee (f := 23) rfl ?_); refine goesL_ (some 37) rfl rfl Tryd.func23 (by kernel_rfl) rfl #[.agg #[.int .i64 t143, .int .u64 t144, .slice Ao77 t145.length co77], .int .i64 a2] rfl (by (try simp only [List.map_toArray, List.map_cons, List.map_nil]); first | done | rfl | (simp only [List.length_drop, List.length_take]; rfl)) ?_; (with_reducible refine (log_Of.calls t143 t144 _ _ t145 a2 t148 t151 _ ?side1 ?side2 A13.out).mono ?_); (case side1 => repeat (first | exact (Kd.R_reads' HO147.out).2.2 | (with_reducible refine Kd.C_alloc ?_ _) | (with_reducible refine Kd.C_drewN ?_ _) | (with_reducible refine Kd.C_drew ?_))); (case side2 => exact (Kd.R_reads' HO147.out).2.1); rintro e w78 ⟨v149, rfl, ho0, hb⟩; refine ⟨_, rfl, ?_⟩; have n0_ := Aside0.mk (Kd.R_elder' (by (with_reducible repeat (first | apply Kd.R_alloc | apply Kd.R_drewN | apply Kd.R_drew)); exact HO137.out) (Kd.R_base ho0) hb); have n1_ := Aside0.mk (Kd.R_elder' (by (with_reducible repeat (first | apply Kd.R_alloc | apply Kd.R_drewN | apply Kd.R_drew)); exact HO140.out) (Kd.R_base ho0) hb); have n2_ := Aside0.mk (Kd.R_elder' (by (with_reducible repeat (first | apply Kd.R_alloc | apply Kd.R_drewN | apply Kd.R_drew)); exact HO147.out) (Kd.R_base ho0) hb); have n3_ := Aside0.mk (Kd.R_lower (Kd.R_new' (Kd.R_new' (Kd.R_new' ho0 (Kd.R_lt (by (with_reducible repeat (first | apply Kd.R_alloc | apply Kd.R_drewN | apply Kd.R_drew)); exact HO137.out))) (Kd.R_lt (by (with_reducible repeat (first | apply Kd.R_alloc | apply Kd.R_drewN | apply Kd.R_drew)); exact HO140.out))) (Kd.R_lt (by (with_reducible repeat (first | apply Kd.R_alloc | apply Kd.R_drewN | apply Kd.R_drew)); exact HO147.out))) (below_size (by repeat (first | (with_reducible first | exact HB.out | apply below_alloc | apply pw_below_drewN | apply below_drew1 | refine below_set ?_ GE131.out) | exact HB.out)))); have n4_ := Aside0.mk (blk_below (g := gb131) (o := .cells #[.int .i64 a0_0, .int .u64 a0_1, .slice A0_2 l0_2.length c0_2] 25 (0, 0)) (by (with_reducible repeat (first | refine blk_drewN ?_ _ | refine blk_drew ?_ | refine blk_alloc ?_ _)); exact BK131.out) hb); have n5_ := Aside0.mk (below_step (by repeat (first | (with_reducible first | exact HB.out | apply below_alloc | apply pw_below_drewN | apply below_drew1 | refine below_set ?_ GE131.out) | exact HB.out)) hb); clear HO137; clear HO140; clear HO147; clear BK131; clear HB; have HO137 := n0_; have HO140 := n1_; have HO147 := n2_; have HO150 := n3_; have BK131 := n4_; have HB := n5_; clear n0_ n1_ n2_ n3_ n4_ n5_; (try clear hb); (try clear hb2); (try clear hk); (try clear hi); (try clear ho0); have hcz79_0 : w78.cell? ⟨gb131, 0, none⟩ = some (.int .i64 a0_0) := (blk_cell BK131.out 0).trans rfl; have hcz79_1 : w78.cell? ⟨gb131, 1, none⟩ = some (.int .u64 a0_1) := (blk_cell BK131.out 1).trans rfl; have hcz79_2 : w78.cell? ⟨gb131, 2, none⟩ = some (.slice A0_2 l0_2.length c0_2) := (blk_cell BK131.out 2).trans rfl; have hfz79_0 := blk_frozen BK131.out 0; have hfz79_1 := blk_frozen BK131.out 1; have hfz79_2 := blk_frozen BK131.out 2) | ((with_reducible refine gate_callee (f := 10) rfl ?_); refine goesL_ (some 42) rfl rfl Tryd.func10 (by kernel_rfl) rfl #[.agg #[.int .i64 a0_0, .int .u64 a0_1, .slice A0_2 l0_2.length c0_2]] rfl (by (try simp only [List.map_toArray, List.map_cons, List.map_nil]); first | done | rfl | (simp only [List.length_drop, List.length_take]; rfl)) ?_; (with_reducible refine (wicketgatelaw27_copied.calls a0_0 a0_1 _ _ l0_2 t152 t153 t154 _ ?side1 ?side2 A14.out).mono ?_); (case side1 => repeat (first | exact (Kd.C_below HR0_2.out HB.out) | (with_reducible refine Kd.C_alloc ?_ _) | (with_reducible refine Kd.C_drewN ?_ _) | (with_reducible refine Kd.C_drew ?_))); (case side2 => exact HC0_2.out); rintro e w80 ⟨v155, rfl, ho0, hb⟩; refine ⟨_, rfl, ?_⟩; have n0_ := Aside0.mk (Kd.R_elder' (by (with_reducible repeat (first | apply Kd.R_alloc | apply Kd.R_drewN | apply Kd.R_drew)); exact HO137.out) (Kd.R_base ho0) hb); have n1_ := Aside0.mk (Kd.R_elder' (by (with_reducible repeat (first | apply Kd.R_alloc | apply Kd.R_drewN | apply Kd.R_drew)); exact HO140.out) (Kd.R_base ho0) hb); have n2_ := Aside0.mk (Kd.R_elder' (by (with_reducible repeat (first | apply Kd.R_alloc | apply Kd.R_drewN | apply Kd.R_drew)); exact HO147.out) (Kd.R_base ho0) hb); have n3_ := Aside0.mk (Kd.R_elder' (by (with_reducible repeat (first | apply Kd.R_alloc | apply Kd.R_drewN | apply Kd.R_drew)); exact HO150.out) (Kd.R_base ho0) hb); have n4_ := Aside0.mk (Kd.R_lower (Kd.R_new' (Kd.R_new' (Kd.R_new' (Kd.R_new' ho0 (Kd.R_lt (by (with_reducible repeat (first | apply Kd.R_alloc | apply Kd.R_drewN | apply Kd.R_drew)); exact HO137.out))) (Kd.R_lt (by (with_reducible repeat (first | apply Kd.R_alloc | apply Kd.R_drewN | apply Kd.R_drew)); exact HO140.out))) (Kd.R_lt (by (with_reducible repeat (first | apply Kd.R_alloc | apply Kd.R_drewN | apply Kd.R_drew)); exact HO147.out))) (Kd.R_lt (by (with_reducible repeat (first | apply Kd.R_alloc | apply Kd.R_drewN | apply Kd.R_drew)); exact HO150.out))) (below_size (by repeat (first | (with_reducible first | exact HB.out | apply below_alloc | apply pw_below_drewN | apply below_drew1 | refine below_set ?_ GE131.out) | exact HB.out)))); have n5_ := Aside0.mk (blk_below (g := gb131) (o := .cells #[.int .i64 a0_0, .int .u64 a0_1, .slice A0_2 l0_2.length c0_2] 25 (0, 0)) (by (with_reducible repeat (first | refine blk_drewN ?_ _ | refine blk_drew ?_ | refine blk_alloc ?_ _)); exact BK131.out) hb); have n6_ := Aside0.mk (below_step (by repeat (first | (with_reducible first | exact HB.out | apply below_alloc | apply pw_below_drewN | apply below_drew1 | refine below_set ?_ GE131.out) | exact HB.out)) hb); clear HO137; clear HO140; clear HO147; clear HO150; clear BK131; clear HB; have HO137 := n0_; have HO140 := n1_; have HO147 := n2_; have HO150 := n3_; have HO156 := n4_; have BK131 := n5_; have HB := n6_; clear n0_ n1_ n2_ n3_ n4_ n5_ n6_; (try clear hb); (try clear hb2); (try clear hk); (try clear hi); (try clear ho0); obtain ⟨Ao81, co81, eo81⟩ := Kd.R_slice HO156.out; subst eo81) | ((with_reducible refine gate_callee (f := 15) rfl ?_); refine goesL_ (some 43) rfl rfl Tryd.func15 (by kernel_rfl) rfl #[.agg #[.int .i64 t152, .int .u64 t153, .slice Ao81 t154.length co81]] rfl (by (try simp only [List.map_toArray, List.map_cons, List.map_nil]); first | done | rfl | (simp only [List.length_drop, List.length_take]; rfl)) ?_; (with_reducible refine (log_Dropped.calls t152 t153 _ _ t154 t157 t158 _ ?side1 ?side2 A15.out).mono ?_); (case side1 => repeat (first | exact (Kd.R_reads' HO156.out).2.2 | (with_reducible refine Kd.C_alloc ?_ _) | (with_reducible refine Kd.C_drewN ?_ _) | (with_reducible refine Kd.C_drew ?_))); (case side2 => exact (Kd.R_reads' HO156.out).2.1); rintro e w82 ⟨rfl, hb⟩; refine ⟨_, rfl, ?_⟩; have n0_ := Aside0.mk (Kd.R_below (by (with_reducible repeat (first | apply Kd.R_alloc | apply Kd.R_drewN | apply Kd.R_drew)); exact HO137.out) hb); have n1_ := Aside0.mk (Kd.R_below (by (with_reducible repeat (first | apply Kd.R_alloc | apply Kd.R_drewN | apply Kd.R_drew)); exact HO140.out) hb); have n2_ := Aside0.mk (Kd.R_below (by (with_reducible repeat (first | apply Kd.R_alloc | apply Kd.R_drewN | apply Kd.R_drew)); exact HO147.out) hb); have n3_ := Aside0.mk (Kd.R_below (by (with_reducible repeat (first | apply Kd.R_alloc | apply Kd.R_drewN | apply Kd.R_drew)); exact HO150.out) hb); have n4_ := Aside0.mk (Kd.R_below (by (with_reducible repeat (first | apply Kd.R_alloc | apply Kd.R_drewN | apply Kd.R_drew)); exact HO156.out) hb); have n5_ := Aside0.mk (blk_below (g := gb131) (o := .cells #[.int .i64 a0_0, .int .u64 a0_1, .slice A0_2 l0_2.length c0_2] 25 (0, 0)) (by (with_reducible repeat (first | refine blk_drewN ?_ _ | refine blk_drew ?_ | refine blk_alloc ?_ _)); exact BK131.out) hb); have n6_ := Aside0.mk (below_step (by repeat (first | (with_reducible first | exact HB.out | apply below_alloc | apply pw_below_drewN | apply below_drew1 | refine below_set ?_ GE131.out) | exact HB.out)) hb); clear HO137; clear HO140; clear HO147; clear HO150; clear HO156; clear BK131; clear HB; have HO137 := n0_; have HO140 := n1_; have HO147 := n2_; have HO150 := n3_; have HO156 := n4_; have BK131 := n5_; have HB := n6_; clear n0_ n1_ n2_ n3_ n4_ n5_ n6_; (try clear hb); (try clear hb2); (try clear hk); (try clear hi); have hcz83_0 : w82.cell? ⟨gb131, 0, none⟩ = some (.int .i64 a0_0) := (blk_cell BK131.out 0).trans rfl; have hcz83_1 : w82.cell? ⟨gb131, 1, none⟩ = some (.int .u64 a0_1) := (blk_cell BK131.out 1).trans rfl; have hcz83_2 : w82.cell? ⟨gb131, 2, none⟩ = some (.slice A0_2 l0_2.length c0_2) := (blk_cell BK131.out 2).trans rfl; have hfz83_0 := blk_frozen BK131.out 0; have hfz83_1 := blk_frozen BK131.out 1; have hfz83_2 := blk_frozen BK131.out 2) | ((with_reducible refine gate_callee (f := 19) rfl ?_); refine goesL_ (some 47) rfl rfl Tryd.func19 (by kernel_rfl) rfl #[.agg #[.int .i64 a0_0, .int .u64 a0_1, .slice A0_2 l0_2.length c0_2]] rfl (by (try simp only [List.map_toArray, List.map_cons, List.map_nil]); first | done | rfl | (simp only [List.length_drop, List.length_take]; rfl)) ?_; (with_reducible refine (wicketgateref27_Right.calls a0_0 a0_1 _ _ l0_2 false _ ?side1 ?side2 A16.out).mono ?_); (case side1 => repeat (first | exact (Kd.C_below HR0_2.out HB.out) | (with_reducible refine Kd.C_alloc ?_ _) | (with_reducible refine Kd.C_drewN ?_ _) | (with_reducible refine Kd.C_drew ?_))); (case side2 => exact HC0_2.out); rintro e w84 ⟨rfl, hb⟩; refine ⟨_, rfl, ?_⟩; have n0_ := Aside0.mk (Kd.R_below (by (with_reducible repeat (first | apply Kd.R_alloc | apply Kd.R_drewN | apply Kd.R_drew)); exact HO137.out) hb); have n1_ := Aside0.mk (Kd.R_below (by (with_reducible repeat (first | apply Kd.R_alloc | apply Kd.R_drewN | apply Kd.R_drew)); exact HO140.out) hb); have n2_ := Aside0.mk (Kd.R_below (by (with_reducible repeat (first | apply Kd.R_alloc | apply Kd.R_drewN | apply Kd.R_drew)); exact HO147.out) hb); have n3_ := Aside0.mk (Kd.R_below (by (with_reducible repeat (first | apply Kd.R_alloc | apply Kd.R_drewN | apply Kd.R_drew)); exact HO150.out) hb); have n4_ := Aside0.mk (Kd.R_below (by (with_reducible repeat (first | apply Kd.R_alloc | apply Kd.R_drewN | apply Kd.R_drew)); exact HO156.out) hb); have n5_ := Aside0.mk (blk_below (g := gb131) (o := .cells #[.int .i64 a0_0, .int .u64 a0_1, .slice A0_2 l0_2.length c0_2] 25 (0, 0)) (by (with_reducible repeat (first | refine blk_drewN ?_ _ | refine blk_drew ?_ | refine blk_alloc ?_ _)); exact BK131.out) hb); have n6_ := Aside0.mk (below_step (by repeat (first | (with_reducible first | exact HB.out | apply below_alloc | apply pw_below_drewN | apply below_drew1 | refine below_set ?_ GE131.out) | exact HB.out)) hb); clear HO137; clear HO140; clear HO147; clear HO150; clear HO156; clear BK131; clear HB; have HO137 := n0_; have HO140 := n1_; have HO147 := n2_; have HO150 := n3_; have HO156 := n4_; have BK131 := n5_; have HB := n6_; clear n0_ n1_ n2_ n3_ n4_ n5_ n6_; (try clear hb); (try clear hb2); (try clear hk); (try clear hi); obtain ⟨Ao85, co85, eo85⟩ := Kd.R_slice HO140.out; subst eo85; obtain ⟨Ao86, co86, eo86⟩ := Kd.R_slice HO150.out; subst eo86))
          go_ret
          exact ⟨by first | rfl | (simp [errW_none, errW_some] <;> rfl) | (simp [*, errW_none, errW_some] <;> rfl), by repeat (first | (with_reducible first | exact HB.out | apply below_alloc | apply pw_below_drewN | apply below_drew1 | refine below_set ?_ GE131.out) | exact HB.out)⟩
         ·rw [if_neg c68] at H
          have c68b0 : (t157 == 0) = false := beq_eq_false_iff_ne.mpr c68
          have c68b1 : (t157 != 0) = true := bne_iff_ne.mpr c68
          exact absurd ((Option.some.inj H).trans HRr.out) (by simp)
        ·rw [if_neg c67] at H
         have c67b0 : (t151 == 370) = false := beq_eq_false_iff_ne.mpr c67
         have c67b1 : (t151 != 370) = true := bne_iff_ne.mpr c67
         exact absurd ((Option.some.inj H).trans HRr.out) (by simp)
       ·rw [if_neg c66] at H
        have c66b0 : ((t148.length : Int) == 0) = false := beq_eq_false_iff_ne.mpr c66
        have c66b1 : ((t148.length : Int) != 0) = true := bne_iff_ne.mpr c66
        have c66b2 : ¬ (t148 = []) := fun h_ => c66 (by rw [h_]; rfl)
        exact absurd ((Option.some.inj H).trans HRr.out) (by simp)
      ·rw [if_neg c65] at H
       have c65b0 : (t142 == 370) = false := beq_eq_false_iff_ne.mpr c65
       have c65b1 : (t142 != 370) = true := bne_iff_ne.mpr c65
       exact absurd ((Option.some.inj H).trans HRr.out) (by simp)
     ·rw [if_neg c64] at H
      have c64b0 : (t141 == 0) = false := beq_eq_false_iff_ne.mpr c64
      have c64b1 : (t141 != 0) = true := bne_iff_ne.mpr c64
      exact absurd ((Option.some.inj H).trans HRr.out) (by simp)
    ·rw [if_neg c63] at H
     have c63b0 : ((t138.length : Int) == 0) = false := beq_eq_false_iff_ne.mpr c63
     have c63b1 : ((t138.length : Int) != 0) = true := bne_iff_ne.mpr c63
     have c63b2 : ¬ (t138 = []) := fun h_ => c63 (by rw [h_]; rfl)
     exact absurd ((Option.some.inj H).trans HRr.out) (by simp)
 ·replace c5 := Bool.eq_false_iff.mpr c5
  subst c5
  have H1 : (some false) = some r := by rw [if_neg (show ¬ (false = true) by decide)] at H; exact H
  clear H
  have H := H1
  clear H1
  exact absurd ((Option.some.inj H).trans HRr.out) (by simp)

end Go.Proofs.YtcpabgijmknldaaDoor.PS.T
