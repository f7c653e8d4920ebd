-- printed by wip/tools/xprint.py (a program of this repo's over the kit's print)
import Derived.Test.YtbpgpbbpeppjmaaPEx0
import Derived.Test.YtbpgpbbpeppjmaaPEx1
import Derived.Test.YtbpgpbbpeppjmaaPEx2
import Derived.Test.YtbpgpbbpeppjmaaPEx3
namespace Go.Proofs.Ytbpgpbbpeppjmaa.PE
open Go.RowKit Go.Proofs.YtbpgpbbpeppjmaaW.PrintWords Go.Proofs.YtbpgpbbpeppjmaaW.PrintLast Go.Proofs.YtbpgpbbpeppjmaaW.PrintMore
attribute [local go_sem] max2_int min2_int max_two min_two max_three min_three max_four min_four   -- for this text's walks alone
set_option linter.unusedVariables false
set_option linter.unusedSimpArgs false

attribute [local go_sem high] eqA24
/-! ### wicketgatelaw26_SignalForces: function 5 -/
mutual
def wicketgatelaw26_SignalForces.l0 : Nat → List (S47) → Int → Int → Int → Bool → Bool → Bool → Int → Int → Int → Int → List Bool → Int → Int → Int → Int → Option (Bool)
 | 0, _, _, _, _, _, _, _, _, _, _, _, _, _, _, _, _ => none
 | k + 1, x21, x22, x23, x199000, x199001, x199002, x199003, x199004, x199005, x199006, x199007, x199008, x200000, x200001, x200002, x200003 => if x23 < x22 then (if 0 ≤ x23 then (if x23 < (x21.length : Int) then (if x23 = 30 then (some true) else ((wicketgatelaw26_Op_run.f ((rd_T47 x21 x23).f0) ((rd_T47 x21 x23).f1) ((rd_T47 x21 x23).f2) ((rd_T47 x21 x23).f3.f0) ((rd_T47 x21 x23).f3.f1) ((rd_T47 x21 x23).f3.f2) ((rd_T47 x21 x23).f3.f3) x199000 x199001 x199002 x199003 x199004 x199005 x199006 x199007 x199008).bind fun bt215 => (if bt215.2.2.2.2.2.2.2.2.2.2.2.2.2.2.2 = 0 then (wicketgatelaw26_SignalForces.j1 k x21 x22 x23 bt215.1 bt215.2.1 bt215.2.2.1 bt215.2.2.2.1 bt215.2.2.2.2.1 bt215.2.2.2.2.2.1 bt215.2.2.2.2.2.2.1 bt215.2.2.2.2.2.2.2.1 bt215.2.2.2.2.2.2.2.2.1 x200000 x200001 x200002 x200003) else (wicketgatelaw26_SignalForces.j1 k x21 x22 x23 x199000 x199001 x199002 x199003 x199004 x199005 x199006 x199007 x199008 x200000 x200001 x200002 x200003)))) else (none)) else (none)) else (some true)
def wicketgatelaw26_SignalForces.j1 : Nat → List (S47) → Int → Int → Int → Bool → Bool → Bool → Int → Int → Int → Int → List Bool → Int → Int → Int → Int → Option (Bool)
 | 0, _, _, _, _, _, _, _, _, _, _, _, _, _, _, _, _ => none
 | k + 1, x21, x22, x23, x199000, x199001, x199002, x199003, x199004, x199005, x199006, x199007, x199008, x200000, x200001, x200002, x200003 => (signal_Force.f x199000 x199001 x199002 x199003 x199004 x199005 x199006 x199007 x199008 x200000 x200001 x200002 x200003).bind fun bt235 => ((signal_Check.f k x199000 x199001 x199002 x199003 x199004 x199005 x199006 x199007 x199008).bind fun t255 => (if t255 = 0 then (if bt235.2.2.2.2.2.2.2.2.2.2.2.2.2.2.2 = 0 then ((signal_Check.f k bt235.1 bt235.2.1 bt235.2.2.1 bt235.2.2.2.1 bt235.2.2.2.2.1 bt235.2.2.2.2.2.1 bt235.2.2.2.2.2.2.1 bt235.2.2.2.2.2.2.2.1 bt235.2.2.2.2.2.2.2.2.1).bind fun t256 => (if t256 = 0 then (if (bt235.2.2.2.2.2.2.2.2.2.1 == bt235.2.2.2.2.2.2.2.2.2.2.1) = true then (wicketgatelaw26_SignalForces.j2 k x21 x22 x23 true x199000 x199001 x199002 x199003 x199004 x199005 x199006 x199007 x199008 x200000 x200001 x200002 x200003 bt235.1 bt235.2.1 bt235.2.2.1 bt235.2.2.2.1 bt235.2.2.2.2.1 bt235.2.2.2.2.2.1 bt235.2.2.2.2.2.2.1 bt235.2.2.2.2.2.2.2.1 bt235.2.2.2.2.2.2.2.2.1 bt235.2.2.2.2.2.2.2.2.2.1 bt235.2.2.2.2.2.2.2.2.2.2.1 bt235.2.2.2.2.2.2.2.2.2.2.2.1 bt235.2.2.2.2.2.2.2.2.2.2.2.2.1 bt235.2.2.2.2.2.2.2.2.2.2.2.2.2.1 bt235.2.2.2.2.2.2.2.2.2.2.2.2.2.2.1) else (wicketgatelaw26_SignalForces.j2 k x21 x22 x23 (!(bt235.2.2.2.2.2.2.2.2.2.2.2.1 == x200000) || (!(bt235.2.2.2.2.2.2.2.2.2.2.2.2.1 == x200001) || (!(bt235.2.2.2.2.2.2.2.2.2.2.2.2.2.1 == x200002) || (!(bt235.2.2.2.2.2.2.2.2.2.2.2.2.2.2.1 == x200003))))) x199000 x199001 x199002 x199003 x199004 x199005 x199006 x199007 x199008 x200000 x200001 x200002 x200003 bt235.1 bt235.2.1 bt235.2.2.1 bt235.2.2.2.1 bt235.2.2.2.2.1 bt235.2.2.2.2.2.1 bt235.2.2.2.2.2.2.1 bt235.2.2.2.2.2.2.2.1 bt235.2.2.2.2.2.2.2.2.1 bt235.2.2.2.2.2.2.2.2.2.1 bt235.2.2.2.2.2.2.2.2.2.2.1 bt235.2.2.2.2.2.2.2.2.2.2.2.1 bt235.2.2.2.2.2.2.2.2.2.2.2.2.1 bt235.2.2.2.2.2.2.2.2.2.2.2.2.2.1 bt235.2.2.2.2.2.2.2.2.2.2.2.2.2.2.1)) else (wicketgatelaw26_SignalForces.j2 k x21 x22 x23 true x199000 x199001 x199002 x199003 x199004 x199005 x199006 x199007 x199008 x200000 x200001 x200002 x200003 bt235.1 bt235.2.1 bt235.2.2.1 bt235.2.2.2.1 bt235.2.2.2.2.1 bt235.2.2.2.2.2.1 bt235.2.2.2.2.2.2.1 bt235.2.2.2.2.2.2.2.1 bt235.2.2.2.2.2.2.2.2.1 bt235.2.2.2.2.2.2.2.2.2.1 bt235.2.2.2.2.2.2.2.2.2.2.1 bt235.2.2.2.2.2.2.2.2.2.2.2.1 bt235.2.2.2.2.2.2.2.2.2.2.2.2.1 bt235.2.2.2.2.2.2.2.2.2.2.2.2.2.1 bt235.2.2.2.2.2.2.2.2.2.2.2.2.2.2.1))) else (wicketgatelaw26_SignalForces.j2 k x21 x22 x23 true x199000 x199001 x199002 x199003 x199004 x199005 x199006 x199007 x199008 x200000 x200001 x200002 x200003 bt235.1 bt235.2.1 bt235.2.2.1 bt235.2.2.2.1 bt235.2.2.2.2.1 bt235.2.2.2.2.2.1 bt235.2.2.2.2.2.2.1 bt235.2.2.2.2.2.2.2.1 bt235.2.2.2.2.2.2.2.2.1 bt235.2.2.2.2.2.2.2.2.2.1 bt235.2.2.2.2.2.2.2.2.2.2.1 bt235.2.2.2.2.2.2.2.2.2.2.2.1 bt235.2.2.2.2.2.2.2.2.2.2.2.2.1 bt235.2.2.2.2.2.2.2.2.2.2.2.2.2.1 bt235.2.2.2.2.2.2.2.2.2.2.2.2.2.2.1)) else (wicketgatelaw26_SignalForces.j2 k x21 x22 x23 true x199000 x199001 x199002 x199003 x199004 x199005 x199006 x199007 x199008 x200000 x200001 x200002 x200003 bt235.1 bt235.2.1 bt235.2.2.1 bt235.2.2.2.1 bt235.2.2.2.2.1 bt235.2.2.2.2.2.1 bt235.2.2.2.2.2.2.1 bt235.2.2.2.2.2.2.2.1 bt235.2.2.2.2.2.2.2.2.1 bt235.2.2.2.2.2.2.2.2.2.1 bt235.2.2.2.2.2.2.2.2.2.2.1 bt235.2.2.2.2.2.2.2.2.2.2.2.1 bt235.2.2.2.2.2.2.2.2.2.2.2.2.1 bt235.2.2.2.2.2.2.2.2.2.2.2.2.2.1 bt235.2.2.2.2.2.2.2.2.2.2.2.2.2.2.1)))
def wicketgatelaw26_SignalForces.j2 : Nat → List (S47) → Int → Int → Bool → Int → Bool → Bool → Bool → Int → Int → Int → Int → List Bool → Int → Int → Int → Int → Int → Bool → Bool → Bool → Int → Int → Int → Int → List Bool → Bool → Bool → Int → Int → Int → Int → Option (Bool)
 | 0, _, _, _, _, _, _, _, _, _, _, _, _, _, _, _, _, _, _, _, _, _, _, _, _, _, _, _, _, _, _, _, _ => none
 | k + 1, x21, x22, x23, x71, x199000, x199001, x199002, x199003, x199004, x199005, x199006, x199007, x199008, x200000, x200001, x200002, x200003, x254000, x254001, x254002, x254003, x254004, x254005, x254006, x254007, x254008, x255000, x255001, x255002, x255003, x255004, x255005 => if x71 = true then (some false) else (if x255001 = true then (if x199002 = true then (some false) else (if x199000 = 2 then (if (x254008.length : Int) = (wrap64 ((x199008.length : Int) + 1)) then (wicketgatelaw26_SignalForces.l0 k x21 x22 (wrap64 (x23 + 1)) x199000 x199001 x199002 x199003 x199004 x199005 x199006 x199007 x199008 x200000 x200001 x200002 x200003) else (some false)) else (some false))) else (wicketgatelaw26_SignalForces.l0 k x21 x22 (wrap64 (x23 + 1)) x199000 x199001 x199002 x199003 x199004 x199005 x199006 x199007 x199008 x200000 x200001 x200002 x200003))
end
def wicketgatelaw26_SignalForces.f (k : Nat) (a0_0 : Int) (a0_1 : Bool) (a0_2 : Bool) (a0_3 : Bool) (a0_4 : Int) (a0_5 : Int) (a0_6 : Int) (a0_7 : Int) (l0_8 : List Bool) (l1 : List (S47)) (a2_0 : Int) (a2_1 : Int) (a2_2 : Int) (a2_3 : Int) : Option (Bool) := (wicketgatelaw26_wakes.f).bind fun t200 => (if t200 = true then ((wicketgatelaw26_short.f a0_0 a0_1 a0_2 a0_3 a0_4 a0_5 a0_6 a0_7 l0_8).bind fun bt201 => ((signal_Check.f k bt201.1 bt201.2.1 bt201.2.2.1 bt201.2.2.2.1 bt201.2.2.2.2.1 bt201.2.2.2.2.2.1 bt201.2.2.2.2.2.2.1 bt201.2.2.2.2.2.2.2.1 bt201.2.2.2.2.2.2.2.2).bind fun t212 => (if t212 = 0 then (wicketgatelaw26_SignalForces.l0 k l1 (l1.length : Int) 0 bt201.1 bt201.2.1 bt201.2.2.1 bt201.2.2.2.1 bt201.2.2.2.2.1 bt201.2.2.2.2.2.1 bt201.2.2.2.2.2.2.1 bt201.2.2.2.2.2.2.2.1 bt201.2.2.2.2.2.2.2.2 a2_0 a2_1 a2_2 a2_3) else (some true)))) else (some false))
theorem wicketgatelaw26_SignalForces.mono_l : ∀ k, (∀ y0 y1 y2 y3 y4 y5 y6 y7 y8 y9 y10 y11 y12 y13 y14 y15, LeO (wicketgatelaw26_SignalForces.l0 k y0 y1 y2 y3 y4 y5 y6 y7 y8 y9 y10 y11 y12 y13 y14 y15) (wicketgatelaw26_SignalForces.l0 (k + 1) y0 y1 y2 y3 y4 y5 y6 y7 y8 y9 y10 y11 y12 y13 y14 y15)) ∧ (∀ y0 y1 y2 y3 y4 y5 y6 y7 y8 y9 y10 y11 y12 y13 y14 y15, LeO (wicketgatelaw26_SignalForces.j1 k y0 y1 y2 y3 y4 y5 y6 y7 y8 y9 y10 y11 y12 y13 y14 y15) (wicketgatelaw26_SignalForces.j1 (k + 1) y0 y1 y2 y3 y4 y5 y6 y7 y8 y9 y10 y11 y12 y13 y14 y15)) ∧ (∀ y0 y1 y2 y3 y4 y5 y6 y7 y8 y9 y10 y11 y12 y13 y14 y15 y16 y17 y18 y19 y20 y21 y22 y23 y24 y25 y26 y27 y28 y29 y30 y31, LeO (wicketgatelaw26_SignalForces.j2 k y0 y1 y2 y3 y4 y5 y6 y7 y8 y9 y10 y11 y12 y13 y14 y15 y16 y17 y18 y19 y20 y21 y22 y23 y24 y25 y26 y27 y28 y29 y30 y31) (wicketgatelaw26_SignalForces.j2 (k + 1) y0 y1 y2 y3 y4 y5 y6 y7 y8 y9 y10 y11 y12 y13 y14 y15 y16 y17 y18 y19 y20 y21 y22 y23 y24 y25 y26 y27 y28 y29 y30 y31))
 | 0 => ⟨fun _ _ _ _ _ _ _ _ _ _ _ _ _ _ _ _ r h => by simp [wicketgatelaw26_SignalForces.l0] at h, fun _ _ _ _ _ _ _ _ _ _ _ _ _ _ _ _ r h => by simp [wicketgatelaw26_SignalForces.j1] at h, fun _ _ _ _ _ _ _ _ _ _ _ _ _ _ _ _ _ _ _ _ _ _ _ _ _ _ _ _ _ _ _ _ r h => by simp [wicketgatelaw26_SignalForces.j2] at h⟩
 | k + 1 => by
  obtain ⟨ih0, ih1, ih2⟩ := wicketgatelaw26_SignalForces.mono_l k
  refine ⟨?_, ?_, ?_⟩
  ·intro y0 y1 y2 y3 y4 y5 y6 y7 y8 y9 y10 y11 y12 y13 y14 y15
   unfold wicketgatelaw26_SignalForces.l0
   repeat' first
   | (with_reducible exact ih0 _ _ _ _ _ _ _ _ _ _ _ _ _ _ _ _)
   | (with_reducible exact ih1 _ _ _ _ _ _ _ _ _ _ _ _ _ _ _ _)
   | (with_reducible exact ih2 _ _ _ _ _ _ _ _ _ _ _ _ _ _ _ _ _ _ _ _ _ _ _ _ _ _ _ _ _ _ _ _)
   | (with_reducible exact signal_Check.mono _ _ _ _ _ _ _ _ _ _)
   | (with_reducible exact LeO.refl _)
   | (with_reducible exact LeO.none _)
   | (with_reducible refine LeO.ite ?_ ?_)
   | (with_reducible refine LeO.bind ?_ (fun _ => ?_))
   | exact ih0 _ _ _ _ _ _ _ _ _ _ _ _ _ _ _ _
   | exact ih1 _ _ _ _ _ _ _ _ _ _ _ _ _ _ _ _
   | exact ih2 _ _ _ _ _ _ _ _ _ _ _ _ _ _ _ _ _ _ _ _ _ _ _ _ _ _ _ _ _ _ _ _
   | exact signal_Check.mono _ _ _ _ _ _ _ _ _ _
   | exact LeO.none _
   | refine LeO.ite ?_ ?_
   | refine LeO.bind ?_ (fun _ => ?_)
  ·intro y0 y1 y2 y3 y4 y5 y6 y7 y8 y9 y10 y11 y12 y13 y14 y15
   unfold wicketgatelaw26_SignalForces.j1
   repeat' first
   | (with_reducible exact ih0 _ _ _ _ _ _ _ _ _ _ _ _ _ _ _ _)
   | (with_reducible exact ih1 _ _ _ _ _ _ _ _ _ _ _ _ _ _ _ _)
   | (with_reducible exact ih2 _ _ _ _ _ _ _ _ _ _ _ _ _ _ _ _ _ _ _ _ _ _ _ _ _ _ _ _ _ _ _ _)
   | (with_reducible exact signal_Check.mono _ _ _ _ _ _ _ _ _ _)
   | (with_reducible exact LeO.refl _)
   | (with_reducible exact LeO.none _)
   | (with_reducible refine LeO.ite ?_ ?_)
   | (with_reducible refine LeO.bind ?_ (fun _ => ?_))
   | exact ih0 _ _ _ _ _ _ _ _ _ _ _ _ _ _ _ _
   | exact ih1 _ _ _ _ _ _ _ _ _ _ _ _ _ _ _ _
   | exact ih2 _ _ _ _ _ _ _ _ _ _ _ _ _ _ _ _ _ _ _ _ _ _ _ _ _ _ _ _ _ _ _ _
   | exact signal_Check.mono _ _ _ _ _ _ _ _ _ _
   | exact LeO.none _
   | refine LeO.ite ?_ ?_
   | refine LeO.bind ?_ (fun _ => ?_)
  ·intro y0 y1 y2 y3 y4 y5 y6 y7 y8 y9 y10 y11 y12 y13 y14 y15 y16 y17 y18 y19 y20 y21 y22 y23 y24 y25 y26 y27 y28 y29 y30 y31
   unfold wicketgatelaw26_SignalForces.j2
   repeat' first
   | (with_reducible exact ih0 _ _ _ _ _ _ _ _ _ _ _ _ _ _ _ _)
   | (with_reducible exact ih1 _ _ _ _ _ _ _ _ _ _ _ _ _ _ _ _)
   | (with_reducible exact ih2 _ _ _ _ _ _ _ _ _ _ _ _ _ _ _ _ _ _ _ _ _ _ _ _ _ _ _ _ _ _ _ _)
   | (with_reducible exact signal_Check.mono _ _ _ _ _ _ _ _ _ _)
   | (with_reducible exact LeO.refl _)
   | (with_reducible exact LeO.none _)
   | (with_reducible refine LeO.ite ?_ ?_)
   | (with_reducible refine LeO.bind ?_ (fun _ => ?_))
   | exact ih0 _ _ _ _ _ _ _ _ _ _ _ _ _ _ _ _
   | exact ih1 _ _ _ _ _ _ _ _ _ _ _ _ _ _ _ _
   | exact ih2 _ _ _ _ _ _ _ _ _ _ _ _ _ _ _ _ _ _ _ _ _ _ _ _ _ _ _ _ _ _ _ _
   | exact signal_Check.mono _ _ _ _ _ _ _ _ _ _
   | exact LeO.none _
   | refine LeO.ite ?_ ?_
   | refine LeO.bind ?_ (fun _ => ?_)
theorem wicketgatelaw26_SignalForces.mono : ∀ a0 a1 a2 a3 a4 a5 a6 a7 a8 a9 a10 a11 a12 a13 k, LeO (wicketgatelaw26_SignalForces.f k a0 a1 a2 a3 a4 a5 a6 a7 a8 a9 a10 a11 a12 a13) (wicketgatelaw26_SignalForces.f (k + 1) a0 a1 a2 a3 a4 a5 a6 a7 a8 a9 a10 a11 a12 a13) := by
 intro a0 a1 a2 a3 a4 a5 a6 a7 a8 a9 a10 a11 a12 a13 k
 obtain ⟨ih0, ih1, ih2⟩ := wicketgatelaw26_SignalForces.mono_l k
 unfold wicketgatelaw26_SignalForces.f
 repeat' first
   | (with_reducible exact ih0 _ _ _ _ _ _ _ _ _ _ _ _ _ _ _ _)
   | (with_reducible exact ih1 _ _ _ _ _ _ _ _ _ _ _ _ _ _ _ _)
   | (with_reducible exact ih2 _ _ _ _ _ _ _ _ _ _ _ _ _ _ _ _ _ _ _ _ _ _ _ _ _ _ _ _ _ _ _ _)
   | (with_reducible exact signal_Check.mono _ _ _ _ _ _ _ _ _ _)
   | (with_reducible exact LeO.refl _)
   | (with_reducible exact LeO.none _)
   | (with_reducible refine LeO.ite ?_ ?_)
   | (with_reducible refine LeO.bind ?_ (fun _ => ?_))
   | exact ih0 _ _ _ _ _ _ _ _ _ _ _ _ _ _ _ _
   | exact ih1 _ _ _ _ _ _ _ _ _ _ _ _ _ _ _ _
   | exact ih2 _ _ _ _ _ _ _ _ _ _ _ _ _ _ _ _ _ _ _ _ _ _ _ _ _ _ _ _ _ _ _ _
   | exact signal_Check.mono _ _ _ _ _ _ _ _ _ _
   | exact LeO.none _
   | refine LeO.ite ?_ ?_
   | refine LeO.bind ?_ (fun _ => ?_)
set_option maxHeartbeats 8000000 in
set_option maxRecDepth 100000 in
theorem wicketgatelaw26_SignalForces.calls (k : Nat) (a0_0 : Int) (a0_1 : Bool) (a0_2 : Bool) (a0_3 : Bool) (a0_4 : Int) (a0_5 : Int) (a0_6 : Int) (a0_7 : Int) (A0_8 : Option Addr) (c0_8 : Nat) (l0_8 : List Bool) (A1 : Option Addr) (c1 : Nat) (l1 : List (S47)) (a2_0 : Int) (a2_1 : Int) (a2_2 : Int) (a2_3 : Int) (r : Bool) (w : World) (hr0_8 : Kd.C Kd.bool w A0_8 l0_8.length l0_8) (hc0_8 : l0_8.length ≤ c0_8) (hr1 : Kd.C k47 w A1 l1.length l1) (hc1 : l1.length ≤ c1) (h : wicketgatelaw26_SignalForces.f k a0_0 a0_1 a0_2 a0_3 a0_4 a0_5 a0_6 a0_7 l0_8 l1 a2_0 a2_1 a2_2 a2_3 = some r) (hr_ : r = true := by rfl) :
  Calls Try.prog 5 #[.agg #[.int .i64 a0_0, .bool a0_1, .bool a0_2, .bool a0_3, .int .i64 a0_4, .int .i64 a0_5, .int .u32 a0_6, .int .u32 a0_7, .slice A0_8 l0_8.length c0_8], .slice A1 l1.length c1, .agg #[.int .i64 a2_0, .int .i64 a2_1, .int .u32 a2_2, .int .u32 a2_3]] w fun e w' => e = .returned (.bool r) ∧ Below w.heap.size w w' := by
 have HRr := Amk_ hr_
 clear hr_
 have hu27 := Try.underlying27
 have hu24 := Try.underlying24
 have hu47 := Try.underlying47
 have hu33 := Try.underlying33
 have HR0_8 := Amk_ hr0_8
 have HC0_8 := Amk_ hc0_8
 clear hr0_8 hc0_8
 have HR1 := Amk_ hr1
 have HC1 := Amk_ hc1
 clear hr1 hc1
 have HB := Amk_ (Below.refl w.heap.size w)
 have H : ((wicketgatelaw26_wakes.f).bind fun t200 => (if t200 = true then ((wicketgatelaw26_short.f a0_0 a0_1 a0_2 a0_3 a0_4 a0_5 a0_6 a0_7 l0_8).bind fun bt201 => ((signal_Check.f k bt201.1 bt201.2.1 bt201.2.2.1 bt201.2.2.2.1 bt201.2.2.2.2.1 bt201.2.2.2.2.2.1 bt201.2.2.2.2.2.2.1 bt201.2.2.2.2.2.2.2.1 bt201.2.2.2.2.2.2.2.2).bind fun t212 => (if t212 = 0 then (wicketgatelaw26_SignalForces.l0 k l1 (l1.length : Int) 0 bt201.1 bt201.2.1 bt201.2.2.1 bt201.2.2.2.1 bt201.2.2.2.2.1 bt201.2.2.2.2.2.1 bt201.2.2.2.2.2.2.1 bt201.2.2.2.2.2.2.2.1 bt201.2.2.2.2.2.2.2.2 a2_0 a2_1 a2_2 a2_3) else (some true)))) else (some false))) = some r := h
 clear h
 replace H := Option.bind_eq_some_iff.mp H
 obtain ⟨t200, A40, H⟩ := H
 replace H : (if t200 = true then ((wicketgatelaw26_short.f a0_0 a0_1 a0_2 a0_3 a0_4 a0_5 a0_6 a0_7 l0_8).bind fun bt201 => ((signal_Check.f k bt201.1 bt201.2.1 bt201.2.2.1 bt201.2.2.2.1 bt201.2.2.2.2.1 bt201.2.2.2.2.2.1 bt201.2.2.2.2.2.2.1 bt201.2.2.2.2.2.2.2.1 bt201.2.2.2.2.2.2.2.2).bind fun t212 => (if t212 = 0 then (wicketgatelaw26_SignalForces.l0 k l1 (l1.length : Int) 0 bt201.1 bt201.2.1 bt201.2.2.1 bt201.2.2.2.1 bt201.2.2.2.2.1 bt201.2.2.2.2.2.1 bt201.2.2.2.2.2.2.1 bt201.2.2.2.2.2.2.2.1 bt201.2.2.2.2.2.2.2.2 a2_0 a2_1 a2_2 a2_3) else (some true)))) else (some false)) = some r := H
 have A4 := Amk_ A40
 clear A40
 by_cases c5 : t200 = true
 ·subst c5
  have H1 : ((wicketgatelaw26_short.f a0_0 a0_1 a0_2 a0_3 a0_4 a0_5 a0_6 a0_7 l0_8).bind fun bt201 => ((signal_Check.f k bt201.1 bt201.2.1 bt201.2.2.1 bt201.2.2.2.1 bt201.2.2.2.2.1 bt201.2.2.2.2.2.1 bt201.2.2.2.2.2.2.1 bt201.2.2.2.2.2.2.2.1 bt201.2.2.2.2.2.2.2.2).bind fun t212 => (if t212 = 0 then (wicketgatelaw26_SignalForces.l0 k l1 (l1.length : Int) 0 bt201.1 bt201.2.1 bt201.2.2.1 bt201.2.2.2.1 bt201.2.2.2.2.1 bt201.2.2.2.2.2.1 bt201.2.2.2.2.2.2.1 bt201.2.2.2.2.2.2.2.1 bt201.2.2.2.2.2.2.2.2 a2_0 a2_1 a2_2 a2_3) else (some true)))) = some r := by rw [if_pos rfl] at H; exact H
  clear H
  have H := H1
  clear H1
  replace H := Option.bind_eq_some_iff.mp H
  obtain ⟨⟨t201, t202, t203, t204, t205, t206, t207, t208, t209⟩, A60, H⟩ := H
  replace H : ((signal_Check.f k t201 t202 t203 t204 t205 t206 t207 t208 t209).bind fun t212 => (if t212 = 0 then (wicketgatelaw26_SignalForces.l0 k l1 (l1.length : Int) 0 t201 t202 t203 t204 t205 t206 t207 t208 t209 a2_0 a2_1 a2_2 a2_3) else (some true))) = some r := H
  have A6 := Amk_ A60
  clear A60
  replace H := Option.bind_eq_some_iff.mp H
  obtain ⟨t212, A70, H⟩ := H
  replace H : (if t212 = 0 then (wicketgatelaw26_SignalForces.l0 k l1 (l1.length : Int) 0 t201 t202 t203 t204 t205 t206 t207 t208 t209 a2_0 a2_1 a2_2 a2_3) else (some true)) = some r := H
  have A7 := Amk_ A70
  clear A70
  by_cases c8 : t212 = 0
  ·rw [if_pos c8] at H
   have c8b0 : (t212 == 0) = true := beq_iff_eq.mpr c8
   have c8b1 : (t212 != 0) = false := bne_eq_false_iff_eq.mpr c8
   clear c8
   have H' := Amk_ H
   clear H
   go_enter Try.func5, Try.ntmps5
   go_wp2_with (first | ((with_reducible refine gate_dst (N := 3) rfl ?_); (try (refine gate_guard (by rfl) ?_; dsimp only)); refine box_event ?hg (N := 3) ?hd (cs := #[.int .i64 a0_0, .bool a0_1, .bool a0_2, .bool a0_3, .int .i64 a0_4, .int .i64 a0_5, .int .u32 a0_6, .int .u32 a0_7, .slice A0_8 l0_8.length c0_8]) (t := 27) ?hr ?_; (case hd => rfl); (case hg => rfl); (case hr => first | (go_simp; done) | (go_simp; rfl)); intro g198 hg w9 hbox hb; have n0_ := Amk_ (blP_ (by repeat (first | (with_reducible first | exact HB.out | apply blA_ | apply pbN_ | apply blD_) | exact HB.out)) hb); have n1_ := Amk_ (hbox); have n2_ := Amk_ ((by rw [hg]; exact (blZ_ (by repeat (first | (with_reducible first | exact HB.out | apply blA_ | apply pbN_ | apply blD_) | exact HB.out))) : w.heap.size ≤ g198)); have n3_ := Amk_ ((by rw [hg]; exact (blZ_ (by repeat (first | (with_reducible first | exact HB.out | apply blA_ | apply pbN_ | apply blD_) | exact HB.out))) : w.heap.size ≤ g198)); clear HB; have HB := n0_; have BK198 := n1_; have GW198 := n2_; have GE198 := n3_; clear n0_ n1_ n2_ n3_; clear hb hbox hg) | ((with_reducible refine gate_dst (N := 5) rfl ?_); (try (refine gate_guard (by rfl) ?_; dsimp only)); refine box_event ?hg (N := 5) ?hd (cs := #[.int .i64 a2_0, .int .i64 a2_1, .int .u32 a2_2, .int .u32 a2_3]) (t := 24) ?hr ?_; (case hd => rfl); (case hg => rfl); (case hr => first | (go_simp; done) | (go_simp; rfl)); intro g199 hg w10 hbox hb; have n0_ := Amk_ (bkB_ (g := g198) (o := .cells #[.int .i64 a0_0, .bool a0_1, .bool a0_2, .bool a0_3, .int .i64 a0_4, .int .i64 a0_5, .int .u32 a0_6, .int .u32 a0_7, .slice A0_8 l0_8.length c0_8] 27 (0, 0)) (by (with_reducible repeat (first | refine bkN_ ?_ _ | refine bkD_ ?_ | refine bkA_ ?_ _)); exact BK198.out) hb); have n1_ := Amk_ (blP_ (by repeat (first | (with_reducible first | exact HB.out | apply blA_ | apply pbN_ | apply blD_ | refine blS_ ?_ GE198.out) | exact HB.out)) hb); have n2_ := Amk_ (hbox); have n3_ := Amk_ ((by rw [hg]; exact (blZ_ (by repeat (first | (with_reducible first | exact HB.out | apply blA_ | apply pbN_ | apply blD_ | refine blS_ ?_ GE198.out) | exact HB.out))) : w.heap.size ≤ g199)); have n4_ := Amk_ ((by rw [hg]; exact (blZ_ (by repeat (first | (with_reducible first | exact HB.out | apply blA_ | apply pbN_ | apply blD_ | refine blS_ ?_ GE198.out) | exact HB.out))) : w.heap.size ≤ g199)); have n5_ := Amk_ ((by rw [hg]; exact Nat.ne_of_lt (blk_lt (g := g198) (o := .cells #[.int .i64 a0_0, .bool a0_1, .bool a0_2, .bool a0_3, .int .i64 a0_4, .int .i64 a0_5, .int .u32 a0_6, .int .u32 a0_7, .slice A0_8 l0_8.length c0_8] 27 (0, 0)) (by (with_reducible repeat (first | refine bkN_ ?_ _ | refine bkD_ ?_ | refine bkA_ ?_ _)); exact BK198.out)) : g198 ≠ g199)); have n6_ := Amk_ ((by rw [hg]; exact Nat.ne_of_gt (blk_lt (g := g198) (o := .cells #[.int .i64 a0_0, .bool a0_1, .bool a0_2, .bool a0_3, .int .i64 a0_4, .int .i64 a0_5, .int .u32 a0_6, .int .u32 a0_7, .slice A0_8 l0_8.length c0_8] 27 (0, 0)) (by (with_reducible repeat (first | refine bkN_ ?_ _ | refine bkD_ ?_ | refine bkA_ ?_ _)); exact BK198.out)) : g199 ≠ g198)); clear BK198; clear HB; have BK198 := n0_; have HB := n1_; have BK199 := n2_; have GW199 := n3_; have GE199 := n4_; have NB198_199 := n5_; have NB199_198 := n6_; clear n0_ n1_ n2_ n3_ n4_ n5_ n6_; clear hb hbox hg) | ((with_reducible refine gate_callee (f := 6) rfl ?_); refine goesL_ (some 14) rfl rfl Try.func6 (by kernel_rfl) rfl #[] rfl (by (try simp only [List.map_toArray, List.map_cons, List.map_nil]); first | done | rfl | (simp only [List.length_drop, List.length_take]; rfl)) ?_; (with_reducible refine (wicketgatelaw26_wakes.calls  true _ A4.out).mono ?_); rintro e w11 ⟨rfl, hb⟩; refine ⟨_, rfl, ?_⟩; have n0_ := Amk_ (bkB_ (g := g198) (o := .cells #[.int .i64 a0_0, .bool a0_1, .bool a0_2, .bool a0_3, .int .i64 a0_4, .int .i64 a0_5, .int .u32 a0_6, .int .u32 a0_7, .slice A0_8 l0_8.length c0_8] 27 (0, 0)) (by (with_reducible repeat (first | refine bkN_ ?_ _ | refine bkD_ ?_ | refine bkA_ ?_ _)); exact BK198.out) hb); have n1_ := Amk_ (bkB_ (g := g199) (o := .cells #[.int .i64 a2_0, .int .i64 a2_1, .int .u32 a2_2, .int .u32 a2_3] 24 (0, 0)) (by (with_reducible repeat (first | refine bkN_ ?_ _ | refine bkD_ ?_ | refine bkA_ ?_ _)); exact BK199.out) hb); have n2_ := Amk_ (blP_ (by repeat (first | (with_reducible first | exact HB.out | apply blA_ | apply pbN_ | apply blD_ | refine blS_ ?_ GE198.out | refine blS_ ?_ GE199.out) | exact HB.out)) hb); clear BK198; clear BK199; clear HB; have BK198 := n0_; have BK199 := n1_; have HB := n2_; clear n0_ n1_ n2_; (try clear hb); (try clear hb2); (try clear hk); (try clear hi); have hnb12 := NB198_199.out; have hnc12 := NB199_198.out; have hcz13_0 : w11.cell? ⟨g198, 0, none⟩ = some (.int .i64 a0_0) := (bkC_ BK198.out 0).trans rfl; have hcz13_1 : w11.cell? ⟨g198, 1, none⟩ = some (.bool a0_1) := (bkC_ BK198.out 1).trans rfl; have hcz13_2 : w11.cell? ⟨g198, 2, none⟩ = some (.bool a0_2) := (bkC_ BK198.out 2).trans rfl; have hcz13_3 : w11.cell? ⟨g198, 3, none⟩ = some (.bool a0_3) := (bkC_ BK198.out 3).trans rfl; have hcz13_4 : w11.cell? ⟨g198, 4, none⟩ = some (.int .i64 a0_4) := (bkC_ BK198.out 4).trans rfl; have hcz13_5 : w11.cell? ⟨g198, 5, none⟩ = some (.int .i64 a0_5) := (bkC_ BK198.out 5).trans rfl; have hcz13_6 : w11.cell? ⟨g198, 6, none⟩ = some (.int .u32 a0_6) := (bkC_ BK198.out 6).trans rfl; have hcz13_7 : w11.cell? ⟨g198, 7, none⟩ = some (.int .u32 a0_7) := (bkC_ BK198.out 7).trans rfl; have hcz13_8 : w11.cell? ⟨g198, 8, none⟩ = some (.slice A0_8 l0_8.length c0_8) := (bkC_ BK198.out 8).trans rfl; have hfz13_0 := bkF_ BK198.out 0; have hfz13_1 := bkF_ BK198.out 1; have hfz13_2 := bkF_ BK198.out 2; have hfz13_3 := bkF_ BK198.out 3; have hfz13_4 := bkF_ BK198.out 4; have hfz13_5 := bkF_ BK198.out 5; have hfz13_6 := bkF_ BK198.out 6; have hfz13_7 := bkF_ BK198.out 7; have hfz13_8 := bkF_ BK198.out 8) | ((with_reducible refine gate_callee (f := 7) rfl ?_); refine goesL_ (some 17) rfl rfl Try.func7 (by kernel_rfl) rfl #[.agg #[.int .i64 a0_0, .bool a0_1, .bool a0_2, .bool a0_3, .int .i64 a0_4, .int .i64 a0_5, .int .u32 a0_6, .int .u32 a0_7, .slice A0_8 l0_8.length c0_8]] rfl (by (try simp only [List.map_toArray, List.map_cons, List.map_nil]); first | done | rfl | (simp only [List.length_drop, List.length_take]; rfl)) ?_; (with_reducible refine (wicketgatelaw26_short.calls a0_0 a0_1 a0_2 a0_3 a0_4 a0_5 a0_6 a0_7 _ _ l0_8 t201 t202 t203 t204 t205 t206 t207 t208 t209 _ ?side1 ?side2 A6.out).mono ?_); (case side1 => repeat (first | exact (Kd.C_below HR0_8.out HB.out) | (with_reducible refine Kd.C_alloc ?_ _) | (with_reducible refine Kd.C_drewN ?_ _) | (with_reducible refine Kd.C_drew ?_))); (case side2 => exact HC0_8.out); rintro e w14 ⟨v210, rfl, ho0, hb⟩; refine ⟨_, rfl, ?_⟩; have n0_ := Amk_ (Kd.R_lower ho0 (blZ_ (by repeat (first | (with_reducible first | exact HB.out | apply blA_ | apply pbN_ | apply blD_ | refine blS_ ?_ GE198.out | refine blS_ ?_ GE199.out) | exact HB.out)))); have n1_ := Amk_ (bkB_ (g := g198) (o := .cells #[.int .i64 a0_0, .bool a0_1, .bool a0_2, .bool a0_3, .int .i64 a0_4, .int .i64 a0_5, .int .u32 a0_6, .int .u32 a0_7, .slice A0_8 l0_8.length c0_8] 27 (0, 0)) (by (with_reducible repeat (first | refine bkN_ ?_ _ | refine bkD_ ?_ | refine bkA_ ?_ _)); exact BK198.out) hb); have n2_ := Amk_ (bkB_ (g := g199) (o := .cells #[.int .i64 a2_0, .int .i64 a2_1, .int .u32 a2_2, .int .u32 a2_3] 24 (0, 0)) (by (with_reducible repeat (first | refine bkN_ ?_ _ | refine bkD_ ?_ | refine bkA_ ?_ _)); exact BK199.out) hb); have n3_ := Amk_ (blP_ (by repeat (first | (with_reducible first | exact HB.out | apply blA_ | apply pbN_ | apply blD_ | refine blS_ ?_ GE198.out | refine blS_ ?_ GE199.out) | exact HB.out)) hb); clear BK198; clear BK199; clear HB; have HO211 := n0_; have BK198 := n1_; have BK199 := n2_; have HB := n3_; clear n0_ n1_ n2_ n3_; (try clear hb); (try clear hb2); (try clear hk); (try clear hi); (try clear ho0); have hcz15_0 : w14.cell? ⟨g198, 0, none⟩ = some (.int .i64 a0_0) := (bkC_ BK198.out 0).trans rfl; have hcz15_1 : w14.cell? ⟨g198, 1, none⟩ = some (.bool a0_1) := (bkC_ BK198.out 1).trans rfl; have hcz15_2 : w14.cell? ⟨g198, 2, none⟩ = some (.bool a0_2) := (bkC_ BK198.out 2).trans rfl; have hcz15_3 : w14.cell? ⟨g198, 3, none⟩ = some (.bool a0_3) := (bkC_ BK198.out 3).trans rfl; have hcz15_4 : w14.cell? ⟨g198, 4, none⟩ = some (.int .i64 a0_4) := (bkC_ BK198.out 4).trans rfl; have hcz15_5 : w14.cell? ⟨g198, 5, none⟩ = some (.int .i64 a0_5) := (bkC_ BK198.out 5).trans rfl; have hcz15_6 : w14.cell? ⟨g198, 6, none⟩ = some (.int .u32 a0_6) := (bkC_ BK198.out 6).trans rfl; have hcz15_7 : w14.cell? ⟨g198, 7, none⟩ = some (.int .u32 a0_7) := (bkC_ BK198.out 7).trans rfl; have hcz15_8 : w14.cell? ⟨g198, 8, none⟩ = some (.slice A0_8 l0_8.length c0_8) := (bkC_ BK198.out 8).trans rfl; have hfz15_0 := bkF_ BK198.out 0; have hfz15_1 := bkF_ BK198.out 1; have hfz15_2 := bkF_ BK198.out 2; have hfz15_3 := bkF_ BK198.out 3; have hfz15_4 := bkF_ BK198.out 4; have hfz15_5 := bkF_ BK198.out 5; have hfz15_6 := bkF_ BK198.out 6; have hfz15_7 := bkF_ BK198.out 7; have hfz15_8 := bkF_ BK198.out 8; obtain ⟨Ao16, co16, eo16⟩ := Kd.R_slice HO211.out; subst eo16) | ((with_reducible refine gate_callee (f := 8) rfl ?_); refine goesL_ (some 19) rfl rfl Try.func8 (by kernel_rfl) rfl #[.agg #[.int .i64 t201, .bool t202, .bool t203, .bool t204, .int .i64 t205, .int .i64 t206, .int .u32 t207, .int .u32 t208, .slice Ao16 t209.length co16]] rfl (by (try simp only [List.map_toArray, List.map_cons, List.map_nil]); first | done | rfl | (simp only [List.length_drop, List.length_take]; rfl)) ?_; (with_reducible refine (signal_Check.calls k t201 t202 t203 t204 t205 t206 t207 t208 _ _ t209 t212 _ ?side1 ?side2 A7.out).mono ?_); (case side1 => refine (Kd.R_reads' (e := 4) (base := w.heap.size) (ok := fun k_ => True) (n := t209.length) (c := co16) ?_).2.2; exact (by (with_reducible repeat (first | apply Kd.R_alloc | apply Kd.R_drewN | apply Kd.R_drew)); exact (Kd.R_mono (RF9_ (g := g198) (Kd.R_types HO211.out BK198.out (by decide)) (fun _ hk => hk.2) _ _ _ _ _ _ _ _ _) (fun _ h_ => h_.1)))); (case side2 => exact (Kd.R_reads' HO211.out).2.1); rintro e w17 ⟨rfl, hb⟩; refine ⟨_, rfl, ?_⟩; have n0_ := Amk_ (Kd.R_below (by (with_reducible repeat (first | apply Kd.R_alloc | apply Kd.R_drewN | apply Kd.R_drew)); exact (Kd.R_mono (RF9_ (g := g198) (Kd.R_types HO211.out BK198.out (by decide)) (fun _ hk => hk.2) _ _ _ _ _ _ _ _ _) (fun _ h_ => h_.1))) hb); have n1_ := Amk_ (bkB_ (g := g198) (o := .cells #[.int .i64 t201, .bool t202, .bool t203, .bool t204, .int .i64 t205, .int .i64 t206, .int .u32 t207, .int .u32 t208, .slice Ao16 t209.length co16] 27 (0, 0)) (by (with_reducible repeat (first | refine bkN_ ?_ _ | refine bkD_ ?_ | refine bkA_ ?_ _)); apply PT9_; (with_reducible repeat (first | refine bkN_ ?_ _ | refine bkD_ ?_ | refine bkA_ ?_ _)); exact BK198.out) hb); have n2_ := Amk_ (bkB_ (g := g199) (o := .cells #[.int .i64 a2_0, .int .i64 a2_1, .int .u32 a2_2, .int .u32 a2_3] 24 (0, 0)) (by (with_reducible repeat (first | refine bkN_ ?_ _ | refine bkD_ ?_ | refine bkA_ ?_ _)); (iterate 9 (refine blk_far ?_ NB199_198.out _; (with_reducible repeat (first | refine bkN_ ?_ _ | refine bkD_ ?_ | refine bkA_ ?_ _)))); exact BK199.out) hb); have n3_ := Amk_ (blP_ (by repeat (first | (with_reducible first | exact HB.out | apply blA_ | apply pbN_ | apply blD_ | refine blS_ ?_ GE198.out | refine blS_ ?_ GE199.out) | exact HB.out)) hb); clear HO211; clear BK198; clear BK199; clear HB; have HO211 := n0_; have BK198 := n1_; have BK199 := n2_; have HB := n3_; clear n0_ n1_ n2_ n3_; (try clear hb); (try clear hb2); (try clear hk); (try clear hi)))
   go_loopg [23] k (fun kq v23 w' => ∃ (x23_1 : Int) (x199000_1 : Int) (x199001_1 : Bool) (x199002_1 : Bool) (x199003_1 : Bool) (x199004_1 : Int) (x199005_1 : Int) (x199006_1 : Int) (x199007_1 : Int) (x199008_1 : List Bool) (u199008 : Value), v23 = .int .i64 x23_1 ∧ Aside0 (wicketgatelaw26_SignalForces.l0 kq l1 (l1.length : Int) x23_1 x199000_1 x199001_1 x199002_1 x199003_1 x199004_1 x199005_1 x199006_1 x199007_1 x199008_1 a2_0 a2_1 a2_2 a2_3 = some r) ∧ Aside0 (kq ≤ k) ∧ Aside0 (Kd.R Kd.bool 4 w' w.heap.size (fun _ => True) u199008 x199008_1) ∧ Aside0 (w'.heap[g198]? = some (.cells #[.int .i64 x199000_1, .bool x199001_1, .bool x199002_1, .bool x199003_1, .int .i64 x199004_1, .int .i64 x199005_1, .int .u32 x199006_1, .int .u32 x199007_1, u199008] 27 (0, 0))) ∧ Aside0 (w'.heap[g199]? = some (.cells #[.int .i64 a2_0, .int .i64 a2_1, .int .u32 a2_2, .int .u32 a2_3] 24 (0, 0))) ∧ Aside0 (Below w.heap.size w w'))
   case atStart => exact ⟨(0), (t201), (t202), (t203), (t204), (t205), (t206), (t207), (t208), (t209), (.slice Ao16 t209.length co16), (by first | rfl | (simp; done) | (simp [*]; done)), H', ⟨Nat.le_refl _⟩, ⟨by (with_reducible repeat (first | apply Kd.R_alloc | apply Kd.R_drewN | apply Kd.R_drew)); exact HO211.out⟩, ⟨by (with_reducible repeat (first | refine bkN_ ?_ _ | refine bkD_ ?_ | refine bkA_ ?_ _)); exact BK198.out⟩, ⟨by (with_reducible repeat (first | refine bkN_ ?_ _ | refine bkD_ ?_ | refine bkA_ ?_ _)); exact BK199.out⟩, ⟨by repeat (first | (with_reducible first | exact HB.out | apply blA_ | apply pbN_ | apply blD_ | refine blS_ ?_ GE198.out | refine blS_ ?_ GE199.out) | exact HB.out)⟩⟩
   case round =>
    clear H'
    try clear c1
    try clear p2
    try clear c5
    try clear c6
    try clear c7
    try clear c8
    try clear c8b0
    try clear c8b1
    try clear c12
    try clear hcz13_0
    try clear hcz13_1
    try clear hcz13_2
    try clear hcz13_3
    try clear hcz13_4
    try clear hcz13_5
    try clear hcz13_6
    try clear hcz13_7
    try clear hcz13_8
    try clear hcz15_0
    try clear hcz15_1
    try clear hcz15_2
    try clear hcz15_3
    try clear hcz15_4
    try clear hcz15_5
    try clear hcz15_6
    try clear hcz15_7
    try clear hcz15_8
    try clear hfz13_0
    try clear hfz13_1
    try clear hfz13_2
    try clear hfz13_3
    try clear hfz13_4
    try clear hfz13_5
    try clear hfz13_6
    try clear hfz13_7
    try clear hfz13_8
    try clear hfz15_0
    try clear hfz15_1
    try clear hfz15_2
    try clear hfz15_3
    try clear hfz15_4
    try clear hfz15_5
    try clear hfz15_6
    try clear hfz15_7
    try clear hfz15_8
    obtain ⟨x23_1, x199000_1, x199001_1, x199002_1, x199003_1, x199004_1, x199005_1, x199006_1, x199007_1, x199008_1, u199008, rfl, HA, HK1, HO_199008, BK198, BK199, HB⟩ := hrel
    cases gk with
    | zero => exact absurd HA.out (by simp [wicketgatelaw26_SignalForces.l0])
    | succ k1 =>
     have H := HA.out
     clear HA
     simp only [wicketgatelaw26_SignalForces.l0] at H
     by_cases c18 : x23_1 < (l1.length : Int)
     ·rw [if_pos c18] at H
      have c18b0 : decide (x23_1 < (l1.length : Int)) = true := decide_eq_true c18
      clear c18
      by_cases c19 : 0 ≤ x23_1
      ·rw [if_pos c19] at H
       have c19b0 : decide (0 ≤ x23_1) = true := decide_eq_true c19
       clear c19
       by_cases c20 : x23_1 < (l1.length : Int)
       ·rw [if_pos c20] at H
        have c20b0 : decide (x23_1 < (l1.length : Int)) = true := decide_eq_true c20
        clear c20
        by_cases c21 : x23_1 = 30
        ·rw [if_pos c21] at H
         have c21b0 : (x23_1 == 30) = true := beq_iff_eq.mpr c21
         have c21b1 : (x23_1 != 30) = false := bne_eq_false_iff_eq.mpr c21
         clear c21
         obtain rfl := Option.some.inj H
         have p213 : 0 ≤ (x23_1 : Int) := of_decide_eq_true (by first | (with_reducible assumption) | assumption)
         have q213 : x23_1 < (l1.length : Int) := of_decide_eq_true (by first | (with_reducible assumption) | assumption)
         obtain ⟨ad213, e213, hx213_0, hx213_1, hx213_2, hx213_3, hx213_4, hx213_5, hx213_6⟩ := at_T47 HR1.out x23_1 p213 q213
         cases e213
         replace hx213_0 := (HB.out.cell (World.block_lt_of_cell? w _ hx213_0)).trans hx213_0
         replace hx213_1 := (HB.out.cell (World.block_lt_of_cell? w _ hx213_1)).trans hx213_1
         replace hx213_2 := (HB.out.cell (World.block_lt_of_cell? w _ hx213_2)).trans hx213_2
         replace hx213_3 := (HB.out.cell (World.block_lt_of_cell? w _ hx213_3)).trans hx213_3
         replace hx213_4 := (HB.out.cell (World.block_lt_of_cell? w _ hx213_4)).trans hx213_4
         replace hx213_5 := (HB.out.cell (World.block_lt_of_cell? w _ hx213_5)).trans hx213_5
         replace hx213_6 := (HB.out.cell (World.block_lt_of_cell? w _ hx213_6)).trans hx213_6
         replace p213 := eq_true p213
         replace q213 := eq_true q213
         go_wp2_with (first | ((with_reducible refine gate_dst (N := 8) rfl ?_); (try (refine gate_guard (by rfl) ?_; dsimp only)); refine box_event ?hg (N := 8) ?hd (cs := #[.int .i64 0, .int .i64 0, .bool false, .int .i64 0, .int .i64 0, .int .u32 0, .int .u32 0]) (t := 47) ?hr ?_; (case hd => rfl); (case hg => rfl); (case hr => first | (go_simp; done) | (go_simp; rfl)); intro g214 hg w22 hbox hb; have n0_ := Amk_ (Kd.R_below (by (with_reducible repeat (first | apply Kd.R_alloc | apply Kd.R_drewN | apply Kd.R_drew)); exact HO_199008.out) hb); have n1_ := Amk_ (bkB_ (g := g198) (o := .cells #[.int .i64 x199000_1, .bool x199001_1, .bool x199002_1, .bool x199003_1, .int .i64 x199004_1, .int .i64 x199005_1, .int .u32 x199006_1, .int .u32 x199007_1, u199008] 27 (0, 0)) (by (with_reducible repeat (first | refine bkN_ ?_ _ | refine bkD_ ?_ | refine bkA_ ?_ _)); exact BK198.out) hb); have n2_ := Amk_ (bkB_ (g := g199) (o := .cells #[.int .i64 a2_0, .int .i64 a2_1, .int .u32 a2_2, .int .u32 a2_3] 24 (0, 0)) (by (with_reducible repeat (first | refine bkN_ ?_ _ | refine bkD_ ?_ | refine bkA_ ?_ _)); exact BK199.out) hb); have n3_ := Amk_ (blP_ (by repeat (first | (with_reducible first | exact HB.out | apply blA_ | apply pbN_ | apply blD_ | refine blS_ ?_ GE198.out | refine blS_ ?_ GE199.out) | exact HB.out)) hb); have n4_ := Amk_ (hbox); have n5_ := Amk_ ((by rw [hg]; exact (blZ_ (by repeat (first | (with_reducible first | exact HB.out | apply blA_ | apply pbN_ | apply blD_ | refine blS_ ?_ GE198.out | refine blS_ ?_ GE199.out) | exact HB.out))) : w.heap.size ≤ g214)); have n6_ := Amk_ ((by rw [hg]; exact (blZ_ (by repeat (first | (with_reducible first | exact HB.out | apply blA_ | apply pbN_ | apply blD_ | refine blS_ ?_ GE198.out | refine blS_ ?_ GE199.out) | exact HB.out))) : w.heap.size ≤ g214)); have n7_ := Amk_ ((by rw [hg]; exact Nat.ne_of_lt (blk_lt (g := g198) (o := .cells #[.int .i64 x199000_1, .bool x199001_1, .bool x199002_1, .bool x199003_1, .int .i64 x199004_1, .int .i64 x199005_1, .int .u32 x199006_1, .int .u32 x199007_1, u199008] 27 (0, 0)) (by (with_reducible repeat (first | refine bkN_ ?_ _ | refine bkD_ ?_ | refine bkA_ ?_ _)); exact BK198.out)) : g198 ≠ g214)); have n8_ := Amk_ ((by rw [hg]; exact Nat.ne_of_gt (blk_lt (g := g198) (o := .cells #[.int .i64 x199000_1, .bool x199001_1, .bool x199002_1, .bool x199003_1, .int .i64 x199004_1, .int .i64 x199005_1, .int .u32 x199006_1, .int .u32 x199007_1, u199008] 27 (0, 0)) (by (with_reducible repeat (first | refine bkN_ ?_ _ | refine bkD_ ?_ | refine bkA_ ?_ _)); exact BK198.out)) : g214 ≠ g198)); have n9_ := Amk_ ((by rw [hg]; exact Nat.ne_of_lt (blk_lt (g := g199) (o := .cells #[.int .i64 a2_0, .int .i64 a2_1, .int .u32 a2_2, .int .u32 a2_3] 24 (0, 0)) (by (with_reducible repeat (first | refine bkN_ ?_ _ | refine bkD_ ?_ | refine bkA_ ?_ _)); exact BK199.out)) : g199 ≠ g214)); have n10_ := Amk_ ((by rw [hg]; exact Nat.ne_of_gt (blk_lt (g := g199) (o := .cells #[.int .i64 a2_0, .int .i64 a2_1, .int .u32 a2_2, .int .u32 a2_3] 24 (0, 0)) (by (with_reducible repeat (first | refine bkN_ ?_ _ | refine bkD_ ?_ | refine bkA_ ?_ _)); exact BK199.out)) : g214 ≠ g199)); clear HO_199008; clear BK198; clear BK199; clear HB; have HO_199008 := n0_; have BK198 := n1_; have BK199 := n2_; have HB := n3_; have BK214 := n4_; have GW214 := n5_; have GE214 := n6_; have NB198_214 := n7_; have NB214_198 := n8_; have NB199_214 := n9_; have NB214_199 := n10_; clear n0_ n1_ n2_ n3_ n4_ n5_ n6_ n7_ n8_ n9_ n10_; clear hb hbox hg; have hnb23 := NB214_198.out; have hnc23 := NB198_214.out; have hnb24 := NB214_199.out; have hnc24 := NB199_214.out; have hcz25_0 : w22.cell? ⟨g214, 0, none⟩ = some (.int .i64 0) := (bkC_ BK214.out 0).trans rfl; have hcz25_1 : w22.cell? ⟨g214, 1, none⟩ = some (.int .i64 0) := (bkC_ BK214.out 1).trans rfl; have hcz25_2 : w22.cell? ⟨g214, 2, none⟩ = some (.bool false) := (bkC_ BK214.out 2).trans rfl; have hcz25_3 : w22.cell? ⟨g214, 3, none⟩ = some (.int .i64 0) := (bkC_ BK214.out 3).trans rfl; have hcz25_4 : w22.cell? ⟨g214, 4, none⟩ = some (.int .i64 0) := (bkC_ BK214.out 4).trans rfl; have hcz25_5 : w22.cell? ⟨g214, 5, none⟩ = some (.int .u32 0) := (bkC_ BK214.out 5).trans rfl; have hcz25_6 : w22.cell? ⟨g214, 6, none⟩ = some (.int .u32 0) := (bkC_ BK214.out 6).trans rfl; have hfz25_0 := bkF_ BK214.out 0; have hfz25_1 := bkF_ BK214.out 1; have hfz25_2 := bkF_ BK214.out 2; have hfz25_3 := bkF_ BK214.out 3; have hfz25_4 := bkF_ BK214.out 4; have hfz25_5 := bkF_ BK214.out 5; have hfz25_6 := bkF_ BK214.out 6))
         go_ret
         exact ⟨by first | rfl | (simp [errW_none, errW_some] <;> rfl) | (simp [*, errW_none, errW_some] <;> rfl), by repeat (first | (with_reducible first | exact HB.out | apply blA_ | apply pbN_ | apply blD_ | refine blS_ ?_ GE198.out | refine blS_ ?_ GE199.out | refine blS_ ?_ GE214.out) | exact HB.out)⟩
        ·rw [if_neg c21] at H
         have c21b0 : (x23_1 == 30) = false := beq_eq_false_iff_ne.mpr c21
         have c21b1 : (x23_1 != 30) = true := bne_iff_ne.mpr c21
         replace H := Option.bind_eq_some_iff.mp H
         obtain ⟨⟨t215, t216, t217, t218, t219, t220, t221, t222, t223, t226, t227, t228, t229, t230, t231, t232⟩, A260, H⟩ := H
         replace H : (if t232 = 0 then (wicketgatelaw26_SignalForces.j1 k1 l1 (l1.length : Int) x23_1 t215 t216 t217 t218 t219 t220 t221 t222 t223 a2_0 a2_1 a2_2 a2_3) else (wicketgatelaw26_SignalForces.j1 k1 l1 (l1.length : Int) x23_1 x199000_1 x199001_1 x199002_1 x199003_1 x199004_1 x199005_1 x199006_1 x199007_1 x199008_1 a2_0 a2_1 a2_2 a2_3)) = some r := H
         have A26 := Amk_ A260
         clear A260
         have HC27 := Amk_ H
         clear H
         have p213 : 0 ≤ (x23_1 : Int) := of_decide_eq_true (by first | (with_reducible assumption) | assumption)
         have q213 : x23_1 < (l1.length : Int) := of_decide_eq_true (by first | (with_reducible assumption) | assumption)
         obtain ⟨ad213, e213, hx213_0, hx213_1, hx213_2, hx213_3, hx213_4, hx213_5, hx213_6⟩ := at_T47 HR1.out x23_1 p213 q213
         cases e213
         replace hx213_0 := (HB.out.cell (World.block_lt_of_cell? w _ hx213_0)).trans hx213_0
         replace hx213_1 := (HB.out.cell (World.block_lt_of_cell? w _ hx213_1)).trans hx213_1
         replace hx213_2 := (HB.out.cell (World.block_lt_of_cell? w _ hx213_2)).trans hx213_2
         replace hx213_3 := (HB.out.cell (World.block_lt_of_cell? w _ hx213_3)).trans hx213_3
         replace hx213_4 := (HB.out.cell (World.block_lt_of_cell? w _ hx213_4)).trans hx213_4
         replace hx213_5 := (HB.out.cell (World.block_lt_of_cell? w _ hx213_5)).trans hx213_5
         replace hx213_6 := (HB.out.cell (World.block_lt_of_cell? w _ hx213_6)).trans hx213_6
         replace p213 := eq_true p213
         replace q213 := eq_true q213
         go_upto_if 38 with (first | ((with_reducible refine gate_dst (N := 8) rfl ?_); (try (refine gate_guard (by rfl) ?_; dsimp only)); refine box_event ?hg (N := 8) ?hd (cs := #[.int .i64 0, .int .i64 0, .bool false, .int .i64 0, .int .i64 0, .int .u32 0, .int .u32 0]) (t := 47) ?hr ?_; (case hd => rfl); (case hg => rfl); (case hr => first | (go_simp; done) | (go_simp; rfl)); intro g214 hg w28 hbox hb; have n0_ := Amk_ (Kd.R_below (by (with_reducible repeat (first | apply Kd.R_alloc | apply Kd.R_drewN | apply Kd.R_drew)); exact HO_199008.out) hb); have n1_ := Amk_ (bkB_ (g := g198) (o := .cells #[.int .i64 x199000_1, .bool x199001_1, .bool x199002_1, .bool x199003_1, .int .i64 x199004_1, .int .i64 x199005_1, .int .u32 x199006_1, .int .u32 x199007_1, u199008] 27 (0, 0)) (by (with_reducible repeat (first | refine bkN_ ?_ _ | refine bkD_ ?_ | refine bkA_ ?_ _)); exact BK198.out) hb); have n2_ := Amk_ (bkB_ (g := g199) (o := .cells #[.int .i64 a2_0, .int .i64 a2_1, .int .u32 a2_2, .int .u32 a2_3] 24 (0, 0)) (by (with_reducible repeat (first | refine bkN_ ?_ _ | refine bkD_ ?_ | refine bkA_ ?_ _)); exact BK199.out) hb); have n3_ := Amk_ (blP_ (by repeat (first | (with_reducible first | exact HB.out | apply blA_ | apply pbN_ | apply blD_ | refine blS_ ?_ GE198.out | refine blS_ ?_ GE199.out) | exact HB.out)) hb); have n4_ := Amk_ (hbox); have n5_ := Amk_ ((by rw [hg]; exact (blZ_ (by repeat (first | (with_reducible first | exact HB.out | apply blA_ | apply pbN_ | apply blD_ | refine blS_ ?_ GE198.out | refine blS_ ?_ GE199.out) | exact HB.out))) : w.heap.size ≤ g214)); have n6_ := Amk_ ((by rw [hg]; exact (blZ_ (by repeat (first | (with_reducible first | exact HB.out | apply blA_ | apply pbN_ | apply blD_ | refine blS_ ?_ GE198.out | refine blS_ ?_ GE199.out) | exact HB.out))) : w.heap.size ≤ g214)); have n7_ := Amk_ ((by rw [hg]; exact Nat.ne_of_lt (blk_lt (g := g198) (o := .cells #[.int .i64 x199000_1, .bool x199001_1, .bool x199002_1, .bool x199003_1, .int .i64 x199004_1, .int .i64 x199005_1, .int .u32 x199006_1, .int .u32 x199007_1, u199008] 27 (0, 0)) (by (with_reducible repeat (first | refine bkN_ ?_ _ | refine bkD_ ?_ | refine bkA_ ?_ _)); exact BK198.out)) : g198 ≠ g214)); have n8_ := Amk_ ((by rw [hg]; exact Nat.ne_of_gt (blk_lt (g := g198) (o := .cells #[.int .i64 x199000_1, .bool x199001_1, .bool x199002_1, .bool x199003_1, .int .i64 x199004_1, .int .i64 x199005_1, .int .u32 x199006_1, .int .u32 x199007_1, u199008] 27 (0, 0)) (by (with_reducible repeat (first | refine bkN_ ?_ _ | refine bkD_ ?_ | refine bkA_ ?_ _)); exact BK198.out)) : g214 ≠ g198)); have n9_ := Amk_ ((by rw [hg]; exact Nat.ne_of_lt (blk_lt (g := g199) (o := .cells #[.int .i64 a2_0, .int .i64 a2_1, .int .u32 a2_2, .int .u32 a2_3] 24 (0, 0)) (by (with_reducible repeat (first | refine bkN_ ?_ _ | refine bkD_ ?_ | refine bkA_ ?_ _)); exact BK199.out)) : g199 ≠ g214)); have n10_ := Amk_ ((by rw [hg]; exact Nat.ne_of_gt (blk_lt (g := g199) (o := .cells #[.int .i64 a2_0, .int .i64 a2_1, .int .u32 a2_2, .int .u32 a2_3] 24 (0, 0)) (by (with_reducible repeat (first | refine bkN_ ?_ _ | refine bkD_ ?_ | refine bkA_ ?_ _)); exact BK199.out)) : g214 ≠ g199)); clear HO_199008; clear BK198; clear BK199; clear HB; have HO_199008 := n0_; have BK198 := n1_; have BK199 := n2_; have HB := n3_; have BK214 := n4_; have GW214 := n5_; have GE214 := n6_; have NB198_214 := n7_; have NB214_198 := n8_; have NB199_214 := n9_; have NB214_199 := n10_; clear n0_ n1_ n2_ n3_ n4_ n5_ n6_ n7_ n8_ n9_ n10_; clear hb hbox hg; have hnb29 := NB214_198.out; have hnc29 := NB198_214.out; have hnb30 := NB214_199.out; have hnc30 := NB199_214.out; have hcz31_0 : w28.cell? ⟨g214, 0, none⟩ = some (.int .i64 0) := (bkC_ BK214.out 0).trans rfl; have hcz31_1 : w28.cell? ⟨g214, 1, none⟩ = some (.int .i64 0) := (bkC_ BK214.out 1).trans rfl; have hcz31_2 : w28.cell? ⟨g214, 2, none⟩ = some (.bool false) := (bkC_ BK214.out 2).trans rfl; have hcz31_3 : w28.cell? ⟨g214, 3, none⟩ = some (.int .i64 0) := (bkC_ BK214.out 3).trans rfl; have hcz31_4 : w28.cell? ⟨g214, 4, none⟩ = some (.int .i64 0) := (bkC_ BK214.out 4).trans rfl; have hcz31_5 : w28.cell? ⟨g214, 5, none⟩ = some (.int .u32 0) := (bkC_ BK214.out 5).trans rfl; have hcz31_6 : w28.cell? ⟨g214, 6, none⟩ = some (.int .u32 0) := (bkC_ BK214.out 6).trans rfl; have hfz31_0 := bkF_ BK214.out 0; have hfz31_1 := bkF_ BK214.out 1; have hfz31_2 := bkF_ BK214.out 2; have hfz31_3 := bkF_ BK214.out 3; have hfz31_4 := bkF_ BK214.out 4; have hfz31_5 := bkF_ BK214.out 5; have hfz31_6 := bkF_ BK214.out 6; have hnb32 := NB198_199.out; have hnc32 := NB199_198.out; have hcz33_0 : w28.cell? ⟨g198, 0, none⟩ = some (.int .i64 x199000_1) := (bkC_ BK198.out 0).trans rfl; have hcz33_1 : w28.cell? ⟨g198, 1, none⟩ = some (.bool x199001_1) := (bkC_ BK198.out 1).trans rfl; have hcz33_2 : w28.cell? ⟨g198, 2, none⟩ = some (.bool x199002_1) := (bkC_ BK198.out 2).trans rfl; have hcz33_3 : w28.cell? ⟨g198, 3, none⟩ = some (.bool x199003_1) := (bkC_ BK198.out 3).trans rfl; have hcz33_4 : w28.cell? ⟨g198, 4, none⟩ = some (.int .i64 x199004_1) := (bkC_ BK198.out 4).trans rfl; have hcz33_5 : w28.cell? ⟨g198, 5, none⟩ = some (.int .i64 x199005_1) := (bkC_ BK198.out 5).trans rfl; have hcz33_6 : w28.cell? ⟨g198, 6, none⟩ = some (.int .u32 x199006_1) := (bkC_ BK198.out 6).trans rfl; have hcz33_7 : w28.cell? ⟨g198, 7, none⟩ = some (.int .u32 x199007_1) := (bkC_ BK198.out 7).trans rfl; have hcz33_8 : w28.cell? ⟨g198, 8, none⟩ = some (u199008) := (bkC_ BK198.out 8).trans rfl; have hfz33_0 := bkF_ BK198.out 0; have hfz33_1 := bkF_ BK198.out 1; have hfz33_2 := bkF_ BK198.out 2; have hfz33_3 := bkF_ BK198.out 3; have hfz33_4 := bkF_ BK198.out 4; have hfz33_5 := bkF_ BK198.out 5; have hfz33_6 := bkF_ BK198.out 6; have hfz33_7 := bkF_ BK198.out 7; have hfz33_8 := bkF_ BK198.out 8; obtain ⟨Ao34, co34, eo34⟩ := Kd.R_slice HO_199008.out; subst eo34) | ((with_reducible refine gate_callee (f := 15) rfl ?_); refine goesL_ (some 33) rfl rfl Try.func15 (by kernel_rfl) rfl #[.agg #[.int .i64 ((rd_T47 l1 x23_1).f0), .int .i64 ((rd_T47 l1 x23_1).f1), .bool ((rd_T47 l1 x23_1).f2), .int .i64 ((rd_T47 l1 x23_1).f3.f0), .int .i64 ((rd_T47 l1 x23_1).f3.f1), .int .u32 ((rd_T47 l1 x23_1).f3.f2), .int .u32 ((rd_T47 l1 x23_1).f3.f3)], .agg #[.int .i64 x199000_1, .bool x199001_1, .bool x199002_1, .bool x199003_1, .int .i64 x199004_1, .int .i64 x199005_1, .int .u32 x199006_1, .int .u32 x199007_1, .slice Ao34 x199008_1.length co34]] rfl (by (try simp only [List.map_toArray, List.map_cons, List.map_nil]); first | done | rfl | (simp only [List.length_drop, List.length_take]; rfl)) ?_; (with_reducible refine (wicketgatelaw26_Op_run.calls ((rd_T47 l1 x23_1).f0) ((rd_T47 l1 x23_1).f1) ((rd_T47 l1 x23_1).f2) ((rd_T47 l1 x23_1).f3.f0) ((rd_T47 l1 x23_1).f3.f1) ((rd_T47 l1 x23_1).f3.f2) ((rd_T47 l1 x23_1).f3.f3) x199000_1 x199001_1 x199002_1 x199003_1 x199004_1 x199005_1 x199006_1 x199007_1 _ _ x199008_1 t215 t216 t217 t218 t219 t220 t221 t222 t223 t226 t227 t228 t229 t230 t231 t232 _ ?side1 ?side2 A26.out).mono ?_); (case side1 => refine (Kd.R_reads' (e := 4) (base := w.heap.size) (ok := fun k_ => True) (n := x199008_1.length) (c := co34) ?_).2.2; exact (by (with_reducible repeat (first | apply Kd.R_alloc | apply Kd.R_drewN | apply Kd.R_drew)); exact (Kd.R_mono (RF7_ (g := g214) (Kd.R_types HO_199008.out BK214.out (by decide)) (fun _ hk => hk.2) _ _ _ _ _ _ _) (fun _ h_ => h_.1)))); (case side2 => exact (Kd.R_reads' HO_199008.out).2.1); rintro e w35 ⟨v224, rfl, ho0, hb⟩; refine ⟨_, rfl, ?_⟩; have n0_ := Amk_ (Kd.R_elder' (by (with_reducible repeat (first | apply Kd.R_alloc | apply Kd.R_drewN | apply Kd.R_drew)); exact (Kd.R_mono (RF7_ (g := g214) (Kd.R_types HO_199008.out BK214.out (by decide)) (fun _ hk => hk.2) _ _ _ _ _ _ _) (fun _ h_ => h_.1))) (Kd.R_base ho0) hb); have n1_ := Amk_ (Kd.R_lower (Kd.R_new' ho0 (Kd.R_lt (by (with_reducible repeat (first | apply Kd.R_alloc | apply Kd.R_drewN | apply Kd.R_drew)); exact (Kd.R_mono (RF7_ (g := g214) (Kd.R_types HO_199008.out BK214.out (by decide)) (fun _ hk => hk.2) _ _ _ _ _ _ _) (fun _ h_ => h_.1))))) (blZ_ (by repeat (first | (with_reducible first | exact HB.out | apply blA_ | apply pbN_ | apply blD_ | refine blS_ ?_ GE198.out | refine blS_ ?_ GE199.out | refine blS_ ?_ GE214.out) | exact HB.out)))); have n2_ := Amk_ (bkB_ (g := g198) (o := .cells #[.int .i64 x199000_1, .bool x199001_1, .bool x199002_1, .bool x199003_1, .int .i64 x199004_1, .int .i64 x199005_1, .int .u32 x199006_1, .int .u32 x199007_1, .slice Ao34 x199008_1.length co34] 27 (0, 0)) (by (with_reducible repeat (first | refine bkN_ ?_ _ | refine bkD_ ?_ | refine bkA_ ?_ _)); (iterate 7 (refine blk_far ?_ NB198_214.out _; (with_reducible repeat (first | refine bkN_ ?_ _ | refine bkD_ ?_ | refine bkA_ ?_ _)))); exact BK198.out) hb); have n3_ := Amk_ (bkB_ (g := g199) (o := .cells #[.int .i64 a2_0, .int .i64 a2_1, .int .u32 a2_2, .int .u32 a2_3] 24 (0, 0)) (by (with_reducible repeat (first | refine bkN_ ?_ _ | refine bkD_ ?_ | refine bkA_ ?_ _)); (iterate 7 (refine blk_far ?_ NB199_214.out _; (with_reducible repeat (first | refine bkN_ ?_ _ | refine bkD_ ?_ | refine bkA_ ?_ _)))); exact BK199.out) hb); have n4_ := Amk_ (bkB_ (g := g214) (o := .cells #[.int .i64 ((rd_T47 l1 x23_1).f0), .int .i64 ((rd_T47 l1 x23_1).f1), .bool ((rd_T47 l1 x23_1).f2), .int .i64 ((rd_T47 l1 x23_1).f3.f0), .int .i64 ((rd_T47 l1 x23_1).f3.f1), .int .u32 ((rd_T47 l1 x23_1).f3.f2), .int .u32 ((rd_T47 l1 x23_1).f3.f3)] 47 (0, 0)) (by (with_reducible repeat (first | refine bkN_ ?_ _ | refine bkD_ ?_ | refine bkA_ ?_ _)); apply PT7_; (with_reducible repeat (first | refine bkN_ ?_ _ | refine bkD_ ?_ | refine bkA_ ?_ _)); exact BK214.out) hb); have n5_ := Amk_ (blP_ (by repeat (first | (with_reducible first | exact HB.out | apply blA_ | apply pbN_ | apply blD_ | refine blS_ ?_ GE198.out | refine blS_ ?_ GE199.out | refine blS_ ?_ GE214.out) | exact HB.out)) hb); clear HO_199008; clear BK198; clear BK199; clear BK214; clear HB; have HO_199008 := n0_; have HO225 := n1_; have BK198 := n2_; have BK199 := n3_; have BK214 := n4_; have HB := n5_; clear n0_ n1_ n2_ n3_ n4_ n5_; (try clear hb); (try clear hb2); (try clear hk); (try clear hi); (try clear ho0)) | ((with_reducible refine gate_dst (N := 9) rfl ?_); (try (refine gate_guard (by rfl) ?_; dsimp only)); refine box_event ?hg (N := 9) ?hd (cs := #[.int .i64 0, .bool false, .bool false, .bool false, .int .i64 0, .int .i64 0, .int .u32 0, .int .u32 0, .slice none 0 0]) (t := 27) ?hr ?_; (case hd => rfl); (case hg => rfl); (case hr => first | (go_simp; done) | (go_simp; rfl)); intro g233 hg w36 hbox hb; have n0_ := Amk_ (Kd.R_below (by (with_reducible repeat (first | apply Kd.R_alloc | apply Kd.R_drewN | apply Kd.R_drew)); exact HO_199008.out) hb); have n1_ := Amk_ (Kd.R_below (by (with_reducible repeat (first | apply Kd.R_alloc | apply Kd.R_drewN | apply Kd.R_drew)); exact HO225.out) hb); have n2_ := Amk_ (bkB_ (g := g198) (o := .cells #[.int .i64 x199000_1, .bool x199001_1, .bool x199002_1, .bool x199003_1, .int .i64 x199004_1, .int .i64 x199005_1, .int .u32 x199006_1, .int .u32 x199007_1, .slice Ao34 x199008_1.length co34] 27 (0, 0)) (by (with_reducible repeat (first | refine bkN_ ?_ _ | refine bkD_ ?_ | refine bkA_ ?_ _)); exact BK198.out) hb); have n3_ := Amk_ (bkB_ (g := g199) (o := .cells #[.int .i64 a2_0, .int .i64 a2_1, .int .u32 a2_2, .int .u32 a2_3] 24 (0, 0)) (by (with_reducible repeat (first | refine bkN_ ?_ _ | refine bkD_ ?_ | refine bkA_ ?_ _)); exact BK199.out) hb); have n4_ := Amk_ (bkB_ (g := g214) (o := .cells #[.int .i64 ((rd_T47 l1 x23_1).f0), .int .i64 ((rd_T47 l1 x23_1).f1), .bool ((rd_T47 l1 x23_1).f2), .int .i64 ((rd_T47 l1 x23_1).f3.f0), .int .i64 ((rd_T47 l1 x23_1).f3.f1), .int .u32 ((rd_T47 l1 x23_1).f3.f2), .int .u32 ((rd_T47 l1 x23_1).f3.f3)] 47 (0, 0)) (by (with_reducible repeat (first | refine bkN_ ?_ _ | refine bkD_ ?_ | refine bkA_ ?_ _)); exact BK214.out) hb); have n5_ := Amk_ (blP_ (by repeat (first | (with_reducible first | exact HB.out | apply blA_ | apply pbN_ | apply blD_ | refine blS_ ?_ GE198.out | refine blS_ ?_ GE199.out | refine blS_ ?_ GE214.out) | exact HB.out)) hb); have n6_ := Amk_ (hbox); have n7_ := Amk_ ((by rw [hg]; exact (blZ_ (by repeat (first | (with_reducible first | exact HB.out | apply blA_ | apply pbN_ | apply blD_ | refine blS_ ?_ GE198.out | refine blS_ ?_ GE199.out | refine blS_ ?_ GE214.out) | exact HB.out))) : w.heap.size ≤ g233)); have n8_ := Amk_ ((by rw [hg]; exact (blZ_ (by repeat (first | (with_reducible first | exact HB.out | apply blA_ | apply pbN_ | apply blD_ | refine blS_ ?_ GE198.out | refine blS_ ?_ GE199.out | refine blS_ ?_ GE214.out) | exact HB.out))) : w.heap.size ≤ g233)); have n9_ := Amk_ ((by rw [hg]; exact Nat.ne_of_lt (blk_lt (g := g198) (o := .cells #[.int .i64 x199000_1, .bool x199001_1, .bool x199002_1, .bool x199003_1, .int .i64 x199004_1, .int .i64 x199005_1, .int .u32 x199006_1, .int .u32 x199007_1, .slice Ao34 x199008_1.length co34] 27 (0, 0)) (by (with_reducible repeat (first | refine bkN_ ?_ _ | refine bkD_ ?_ | refine bkA_ ?_ _)); exact BK198.out)) : g198 ≠ g233)); have n10_ := Amk_ ((by rw [hg]; exact Nat.ne_of_gt (blk_lt (g := g198) (o := .cells #[.int .i64 x199000_1, .bool x199001_1, .bool x199002_1, .bool x199003_1, .int .i64 x199004_1, .int .i64 x199005_1, .int .u32 x199006_1, .int .u32 x199007_1, .slice Ao34 x199008_1.length co34] 27 (0, 0)) (by (with_reducible repeat (first | refine bkN_ ?_ _ | refine bkD_ ?_ | refine bkA_ ?_ _)); exact BK198.out)) : g233 ≠ g198)); have n11_ := Amk_ ((by rw [hg]; exact Nat.ne_of_lt (blk_lt (g := g199) (o := .cells #[.int .i64 a2_0, .int .i64 a2_1, .int .u32 a2_2, .int .u32 a2_3] 24 (0, 0)) (by (with_reducible repeat (first | refine bkN_ ?_ _ | refine bkD_ ?_ | refine bkA_ ?_ _)); exact BK199.out)) : g199 ≠ g233)); have n12_ := Amk_ ((by rw [hg]; exact Nat.ne_of_gt (blk_lt (g := g199) (o := .cells #[.int .i64 a2_0, .int .i64 a2_1, .int .u32 a2_2, .int .u32 a2_3] 24 (0, 0)) (by (with_reducible repeat (first | refine bkN_ ?_ _ | refine bkD_ ?_ | refine bkA_ ?_ _)); exact BK199.out)) : g233 ≠ g199)); have n13_ := Amk_ ((by rw [hg]; exact Nat.ne_of_lt (blk_lt (g := g214) (o := .cells #[.int .i64 ((rd_T47 l1 x23_1).f0), .int .i64 ((rd_T47 l1 x23_1).f1), .bool ((rd_T47 l1 x23_1).f2), .int .i64 ((rd_T47 l1 x23_1).f3.f0), .int .i64 ((rd_T47 l1 x23_1).f3.f1), .int .u32 ((rd_T47 l1 x23_1).f3.f2), .int .u32 ((rd_T47 l1 x23_1).f3.f3)] 47 (0, 0)) (by (with_reducible repeat (first | refine bkN_ ?_ _ | refine bkD_ ?_ | refine bkA_ ?_ _)); exact BK214.out)) : g214 ≠ g233)); have n14_ := Amk_ ((by rw [hg]; exact Nat.ne_of_gt (blk_lt (g := g214) (o := .cells #[.int .i64 ((rd_T47 l1 x23_1).f0), .int .i64 ((rd_T47 l1 x23_1).f1), .bool ((rd_T47 l1 x23_1).f2), .int .i64 ((rd_T47 l1 x23_1).f3.f0), .int .i64 ((rd_T47 l1 x23_1).f3.f1), .int .u32 ((rd_T47 l1 x23_1).f3.f2), .int .u32 ((rd_T47 l1 x23_1).f3.f3)] 47 (0, 0)) (by (with_reducible repeat (first | refine bkN_ ?_ _ | refine bkD_ ?_ | refine bkA_ ?_ _)); exact BK214.out)) : g233 ≠ g214)); clear HO_199008; clear HO225; clear BK198; clear BK199; clear BK214; clear HB; have HO_199008 := n0_; have HO225 := n1_; have BK198 := n2_; have BK199 := n3_; have BK214 := n4_; have HB := n5_; have BK233 := n6_; have GW233 := n7_; have GE233 := n8_; have NB198_233 := n9_; have NB233_198 := n10_; have NB199_233 := n11_; have NB233_199 := n12_; have NB214_233 := n13_; have NB233_214 := n14_; clear n0_ n1_ n2_ n3_ n4_ n5_ n6_ n7_ n8_ n9_ n10_ n11_ n12_ n13_ n14_; clear hb hbox hg) | ((with_reducible refine gate_dst (N := 10) rfl ?_); (try (refine gate_guard (by rfl) ?_; dsimp only)); refine box_event ?hg (N := 10) ?hd (cs := #[.bool false, .bool false, .int .i64 0, .int .i64 0, .int .u32 0, .int .u32 0]) (t := 33) ?hr ?_; (case hd => rfl); (case hg => rfl); (case hr => first | (go_simp; done) | (go_simp; rfl)); intro g234 hg w37 hbox hb; have n0_ := Amk_ (Kd.R_below (by (with_reducible repeat (first | apply Kd.R_alloc | apply Kd.R_drewN | apply Kd.R_drew)); exact HO_199008.out) hb); have n1_ := Amk_ (Kd.R_below (by (with_reducible repeat (first | apply Kd.R_alloc | apply Kd.R_drewN | apply Kd.R_drew)); exact HO225.out) hb); have n2_ := Amk_ (bkB_ (g := g198) (o := .cells #[.int .i64 x199000_1, .bool x199001_1, .bool x199002_1, .bool x199003_1, .int .i64 x199004_1, .int .i64 x199005_1, .int .u32 x199006_1, .int .u32 x199007_1, .slice Ao34 x199008_1.length co34] 27 (0, 0)) (by (with_reducible repeat (first | refine bkN_ ?_ _ | refine bkD_ ?_ | refine bkA_ ?_ _)); exact BK198.out) hb); have n3_ := Amk_ (bkB_ (g := g199) (o := .cells #[.int .i64 a2_0, .int .i64 a2_1, .int .u32 a2_2, .int .u32 a2_3] 24 (0, 0)) (by (with_reducible repeat (first | refine bkN_ ?_ _ | refine bkD_ ?_ | refine bkA_ ?_ _)); exact BK199.out) hb); have n4_ := Amk_ (bkB_ (g := g214) (o := .cells #[.int .i64 ((rd_T47 l1 x23_1).f0), .int .i64 ((rd_T47 l1 x23_1).f1), .bool ((rd_T47 l1 x23_1).f2), .int .i64 ((rd_T47 l1 x23_1).f3.f0), .int .i64 ((rd_T47 l1 x23_1).f3.f1), .int .u32 ((rd_T47 l1 x23_1).f3.f2), .int .u32 ((rd_T47 l1 x23_1).f3.f3)] 47 (0, 0)) (by (with_reducible repeat (first | refine bkN_ ?_ _ | refine bkD_ ?_ | refine bkA_ ?_ _)); exact BK214.out) hb); have n5_ := Amk_ (bkB_ (g := g233) (o := .cells #[.int .i64 0, .bool false, .bool false, .bool false, .int .i64 0, .int .i64 0, .int .u32 0, .int .u32 0, .slice none 0 0] 27 (0, 0)) (by (with_reducible repeat (first | refine bkN_ ?_ _ | refine bkD_ ?_ | refine bkA_ ?_ _)); exact BK233.out) hb); have n6_ := Amk_ (blP_ (by repeat (first | (with_reducible first | exact HB.out | apply blA_ | apply pbN_ | apply blD_ | refine blS_ ?_ GE198.out | refine blS_ ?_ GE199.out | refine blS_ ?_ GE214.out | refine blS_ ?_ GE233.out) | exact HB.out)) hb); have n7_ := Amk_ (hbox); have n8_ := Amk_ ((by rw [hg]; exact (blZ_ (by repeat (first | (with_reducible first | exact HB.out | apply blA_ | apply pbN_ | apply blD_ | refine blS_ ?_ GE198.out | refine blS_ ?_ GE199.out | refine blS_ ?_ GE214.out | refine blS_ ?_ GE233.out) | exact HB.out))) : w.heap.size ≤ g234)); have n9_ := Amk_ ((by rw [hg]; exact (blZ_ (by repeat (first | (with_reducible first | exact HB.out | apply blA_ | apply pbN_ | apply blD_ | refine blS_ ?_ GE198.out | refine blS_ ?_ GE199.out | refine blS_ ?_ GE214.out | refine blS_ ?_ GE233.out) | exact HB.out))) : w.heap.size ≤ g234)); have n10_ := Amk_ ((by rw [hg]; exact Nat.ne_of_lt (blk_lt (g := g198) (o := .cells #[.int .i64 x199000_1, .bool x199001_1, .bool x199002_1, .bool x199003_1, .int .i64 x199004_1, .int .i64 x199005_1, .int .u32 x199006_1, .int .u32 x199007_1, .slice Ao34 x199008_1.length co34] 27 (0, 0)) (by (with_reducible repeat (first | refine bkN_ ?_ _ | refine bkD_ ?_ | refine bkA_ ?_ _)); exact BK198.out)) : g198 ≠ g234)); have n11_ := Amk_ ((by rw [hg]; exact Nat.ne_of_gt (blk_lt (g := g198) (o := .cells #[.int .i64 x199000_1, .bool x199001_1, .bool x199002_1, .bool x199003_1, .int .i64 x199004_1, .int .i64 x199005_1, .int .u32 x199006_1, .int .u32 x199007_1, .slice Ao34 x199008_1.length co34] 27 (0, 0)) (by (with_reducible repeat (first | refine bkN_ ?_ _ | refine bkD_ ?_ | refine bkA_ ?_ _)); exact BK198.out)) : g234 ≠ g198)); have n12_ := Amk_ ((by rw [hg]; exact Nat.ne_of_lt (blk_lt (g := g199) (o := .cells #[.int .i64 a2_0, .int .i64 a2_1, .int .u32 a2_2, .int .u32 a2_3] 24 (0, 0)) (by (with_reducible repeat (first | refine bkN_ ?_ _ | refine bkD_ ?_ | refine bkA_ ?_ _)); exact BK199.out)) : g199 ≠ g234)); have n13_ := Amk_ ((by rw [hg]; exact Nat.ne_of_gt (blk_lt (g := g199) (o := .cells #[.int .i64 a2_0, .int .i64 a2_1, .int .u32 a2_2, .int .u32 a2_3] 24 (0, 0)) (by (with_reducible repeat (first | refine bkN_ ?_ _ | refine bkD_ ?_ | refine bkA_ ?_ _)); exact BK199.out)) : g234 ≠ g199)); have n14_ := Amk_ ((by rw [hg]; exact Nat.ne_of_lt (blk_lt (g := g214) (o := .cells #[.int .i64 ((rd_T47 l1 x23_1).f0), .int .i64 ((rd_T47 l1 x23_1).f1), .bool ((rd_T47 l1 x23_1).f2), .int .i64 ((rd_T47 l1 x23_1).f3.f0), .int .i64 ((rd_T47 l1 x23_1).f3.f1), .int .u32 ((rd_T47 l1 x23_1).f3.f2), .int .u32 ((rd_T47 l1 x23_1).f3.f3)] 47 (0, 0)) (by (with_reducible repeat (first | refine bkN_ ?_ _ | refine bkD_ ?_ | refine bkA_ ?_ _)); exact BK214.out)) : g214 ≠ g234)); have n15_ := Amk_ ((by rw [hg]; exact Nat.ne_of_gt (blk_lt (g := g214) (o := .cells #[.int .i64 ((rd_T47 l1 x23_1).f0), .int .i64 ((rd_T47 l1 x23_1).f1), .bool ((rd_T47 l1 x23_1).f2), .int .i64 ((rd_T47 l1 x23_1).f3.f0), .int .i64 ((rd_T47 l1 x23_1).f3.f1), .int .u32 ((rd_T47 l1 x23_1).f3.f2), .int .u32 ((rd_T47 l1 x23_1).f3.f3)] 47 (0, 0)) (by (with_reducible repeat (first | refine bkN_ ?_ _ | refine bkD_ ?_ | refine bkA_ ?_ _)); exact BK214.out)) : g234 ≠ g214)); have n16_ := Amk_ ((by rw [hg]; exact Nat.ne_of_lt (blk_lt (g := g233) (o := .cells #[.int .i64 0, .bool false, .bool false, .bool false, .int .i64 0, .int .i64 0, .int .u32 0, .int .u32 0, .slice none 0 0] 27 (0, 0)) (by (with_reducible repeat (first | refine bkN_ ?_ _ | refine bkD_ ?_ | refine bkA_ ?_ _)); exact BK233.out)) : g233 ≠ g234)); have n17_ := Amk_ ((by rw [hg]; exact Nat.ne_of_gt (blk_lt (g := g233) (o := .cells #[.int .i64 0, .bool false, .bool false, .bool false, .int .i64 0, .int .i64 0, .int .u32 0, .int .u32 0, .slice none 0 0] 27 (0, 0)) (by (with_reducible repeat (first | refine bkN_ ?_ _ | refine bkD_ ?_ | refine bkA_ ?_ _)); exact BK233.out)) : g234 ≠ g233)); clear HO_199008; clear HO225; clear BK198; clear BK199; clear BK214; clear BK233; clear HB; have HO_199008 := n0_; have HO225 := n1_; have BK198 := n2_; have BK199 := n3_; have BK214 := n4_; have BK233 := n5_; have HB := n6_; have BK234 := n7_; have GW234 := n8_; have GE234 := n9_; have NB198_234 := n10_; have NB234_198 := n11_; have NB199_234 := n12_; have NB234_199 := n13_; have NB214_234 := n14_; have NB234_214 := n15_; have NB233_234 := n16_; have NB234_233 := n17_; clear n0_ n1_ n2_ n3_ n4_ n5_ n6_ n7_ n8_ n9_ n10_ n11_ n12_ n13_ n14_ n15_ n16_ n17_; clear hb hbox hg; have hnb38 := NB233_198.out; have hnc38 := NB198_233.out; have hnb39 := NB233_199.out; have hnc39 := NB199_233.out; have hnb40 := NB233_214.out; have hnc40 := NB214_233.out; have hnb41 := NB233_234.out; have hnc41 := NB234_233.out; have hcz42_0 : w37.cell? ⟨g233, 0, none⟩ = some (.int .i64 0) := (bkC_ BK233.out 0).trans rfl; have hcz42_1 : w37.cell? ⟨g233, 1, none⟩ = some (.bool false) := (bkC_ BK233.out 1).trans rfl; have hcz42_2 : w37.cell? ⟨g233, 2, none⟩ = some (.bool false) := (bkC_ BK233.out 2).trans rfl; have hcz42_3 : w37.cell? ⟨g233, 3, none⟩ = some (.bool false) := (bkC_ BK233.out 3).trans rfl; have hcz42_4 : w37.cell? ⟨g233, 4, none⟩ = some (.int .i64 0) := (bkC_ BK233.out 4).trans rfl; have hcz42_5 : w37.cell? ⟨g233, 5, none⟩ = some (.int .i64 0) := (bkC_ BK233.out 5).trans rfl; have hcz42_6 : w37.cell? ⟨g233, 6, none⟩ = some (.int .u32 0) := (bkC_ BK233.out 6).trans rfl; have hcz42_7 : w37.cell? ⟨g233, 7, none⟩ = some (.int .u32 0) := (bkC_ BK233.out 7).trans rfl; have hcz42_8 : w37.cell? ⟨g233, 8, none⟩ = some (.slice none 0 0) := (bkC_ BK233.out 8).trans rfl; have hfz42_0 := bkF_ BK233.out 0; have hfz42_1 := bkF_ BK233.out 1; have hfz42_2 := bkF_ BK233.out 2; have hfz42_3 := bkF_ BK233.out 3; have hfz42_4 := bkF_ BK233.out 4; have hfz42_5 := bkF_ BK233.out 5; have hfz42_6 := bkF_ BK233.out 6; have hfz42_7 := bkF_ BK233.out 7; have hfz42_8 := bkF_ BK233.out 8; obtain ⟨Ao43, co43, eo43⟩ := Kd.R_slice HO225.out; subst eo43; have hnb44 := NB234_198.out; have hnc44 := NB198_234.out; have hnb45 := NB234_199.out; have hnc45 := NB199_234.out; have hnb46 := NB234_214.out; have hnc46 := NB214_234.out; have hcz47_0 : w37.cell? ⟨g234, 0, none⟩ = some (.bool false) := (bkC_ BK234.out 0).trans rfl; have hcz47_1 : w37.cell? ⟨g234, 1, none⟩ = some (.bool false) := (bkC_ BK234.out 1).trans rfl; have hcz47_2 : w37.cell? ⟨g234, 2, none⟩ = some (.int .i64 0) := (bkC_ BK234.out 2).trans rfl; have hcz47_3 : w37.cell? ⟨g234, 3, none⟩ = some (.int .i64 0) := (bkC_ BK234.out 3).trans rfl; have hcz47_4 : w37.cell? ⟨g234, 4, none⟩ = some (.int .u32 0) := (bkC_ BK234.out 4).trans rfl; have hcz47_5 : w37.cell? ⟨g234, 5, none⟩ = some (.int .u32 0) := (bkC_ BK234.out 5).trans rfl; have hfz47_0 := bkF_ BK234.out 0; have hfz47_1 := bkF_ BK234.out 1; have hfz47_2 := bkF_ BK234.out 2; have hfz47_3 := bkF_ BK234.out 3; have hfz47_4 := bkF_ BK234.out 4; have hfz47_5 := bkF_ BK234.out 5))
         (try simp only [Act.put, List.setIfInBounds_toArray, List.set_cons_zero, List.set_cons_succ])
         go_cut [] (fun wc => ∃ (kq : Nat) (x199000_26 : Int) (x199001_26 : Bool) (x199002_26 : Bool) (x199003_26 : Bool) (x199004_26 : Int) (x199005_26 : Int) (x199006_26 : Int) (x199007_26 : Int) (x199008_26 : List Bool) (u199008 : Value), Aside0 (wicketgatelaw26_SignalForces.j1 kq l1 (l1.length : Int) x23_1 x199000_26 x199001_26 x199002_26 x199003_26 x199004_26 x199005_26 x199006_26 x199007_26 x199008_26 a2_0 a2_1 a2_2 a2_3 = some r) ∧ Aside0 (kq ≤ k1) ∧ Aside0 (Kd.R Kd.bool 4 wc w.heap.size (fun k_ => True) u199008 x199008_26) ∧ Aside0 (Kd.R Kd.bool 4 wc w.heap.size (fun k_ => True) (.slice Ao43 t223.length co43) t223) ∧ Aside0 (wc.heap[g198]? = some (.cells #[.int .i64 x199000_26, .bool x199001_26, .bool x199002_26, .bool x199003_26, .int .i64 x199004_26, .int .i64 x199005_26, .int .u32 x199006_26, .int .u32 x199007_26, u199008] 27 (0, 0))) ∧ Aside0 (wc.heap[g199]? = some (.cells #[.int .i64 a2_0, .int .i64 a2_1, .int .u32 a2_2, .int .u32 a2_3] 24 (0, 0))) ∧ Aside0 (wc.heap[g214]? = some (.cells #[.int .i64 ((rd_T47 l1 x23_1).f0), .int .i64 ((rd_T47 l1 x23_1).f1), .bool ((rd_T47 l1 x23_1).f2), .int .i64 ((rd_T47 l1 x23_1).f3.f0), .int .i64 ((rd_T47 l1 x23_1).f3.f1), .int .u32 ((rd_T47 l1 x23_1).f3.f2), .int .u32 ((rd_T47 l1 x23_1).f3.f3)] 47 (0, 0))) ∧ Aside0 (wc.heap[g233]? = some (.cells #[.int .i64 t215, .bool t216, .bool t217, .bool t218, .int .i64 t219, .int .i64 t220, .int .u32 t221, .int .u32 t222, (.slice Ao43 t223.length co43)] 27 (0, 0))) ∧ Aside0 (wc.heap[g234]? = some (.cells #[.bool t226, .bool t227, .int .i64 t228, .int .i64 t229, .int .u32 t230, .int .u32 t231] 33 (0, 0))) ∧ Aside0 (Below w.heap.size w wc))
         case first =>
          have H := HC27.out
          clear HC27
          by_cases c48 : t232 = 0
          ·rw [if_pos c48] at H
           have c48b0 : (t232 == 0) = true := beq_iff_eq.mpr c48
           have c48b1 : (t232 != 0) = false := bne_eq_false_iff_eq.mpr c48
           clear c48
           (first | rw [c48b0] | (simp only [i64_w, i32_w]; rw [c48b0]) | skip)
           have H' := Amk_ H
           clear H
           have hnb49 := NB233_198.out
           have hnc49 := NB198_233.out
           have hnb50 := NB233_199.out
           have hnc50 := NB199_233.out
           have hnb51 := NB233_214.out
           have hnc51 := NB214_233.out
           have hnb52 := NB233_234.out
           have hnc52 := NB234_233.out
           have hcz53_0 : w37.cell? ⟨g233, 0, none⟩ = some (.int .i64 0) := (bkC_ BK233.out 0).trans rfl
           have hcz53_1 : w37.cell? ⟨g233, 1, none⟩ = some (.bool false) := (bkC_ BK233.out 1).trans rfl
           have hcz53_2 : w37.cell? ⟨g233, 2, none⟩ = some (.bool false) := (bkC_ BK233.out 2).trans rfl
           have hcz53_3 : w37.cell? ⟨g233, 3, none⟩ = some (.bool false) := (bkC_ BK233.out 3).trans rfl
           have hcz53_4 : w37.cell? ⟨g233, 4, none⟩ = some (.int .i64 0) := (bkC_ BK233.out 4).trans rfl
           have hcz53_5 : w37.cell? ⟨g233, 5, none⟩ = some (.int .i64 0) := (bkC_ BK233.out 5).trans rfl
           have hcz53_6 : w37.cell? ⟨g233, 6, none⟩ = some (.int .u32 0) := (bkC_ BK233.out 6).trans rfl
           have hcz53_7 : w37.cell? ⟨g233, 7, none⟩ = some (.int .u32 0) := (bkC_ BK233.out 7).trans rfl
           have hcz53_8 : w37.cell? ⟨g233, 8, none⟩ = some (.slice none 0 0) := (bkC_ BK233.out 8).trans rfl
           have hfz53_0 := bkF_ BK233.out 0
           have hfz53_1 := bkF_ BK233.out 1
           have hfz53_2 := bkF_ BK233.out 2
           have hfz53_3 := bkF_ BK233.out 3
           have hfz53_4 := bkF_ BK233.out 4
           have hfz53_5 := bkF_ BK233.out 5
           have hfz53_6 := bkF_ BK233.out 6
           have hfz53_7 := bkF_ BK233.out 7
           have hfz53_8 := bkF_ BK233.out 8
           have hnb54 := NB198_199.out
           have hnc54 := NB199_198.out
           have hnb55 := NB198_214.out
           have hnc55 := NB214_198.out
           have hnb56 := NB198_234.out
           have hnc56 := NB234_198.out
           have hcz57_0 : w37.cell? ⟨g198, 0, none⟩ = some (.int .i64 x199000_1) := (bkC_ BK198.out 0).trans rfl
           have hcz57_1 : w37.cell? ⟨g198, 1, none⟩ = some (.bool x199001_1) := (bkC_ BK198.out 1).trans rfl
           have hcz57_2 : w37.cell? ⟨g198, 2, none⟩ = some (.bool x199002_1) := (bkC_ BK198.out 2).trans rfl
           have hcz57_3 : w37.cell? ⟨g198, 3, none⟩ = some (.bool x199003_1) := (bkC_ BK198.out 3).trans rfl
           have hcz57_4 : w37.cell? ⟨g198, 4, none⟩ = some (.int .i64 x199004_1) := (bkC_ BK198.out 4).trans rfl
           have hcz57_5 : w37.cell? ⟨g198, 5, none⟩ = some (.int .i64 x199005_1) := (bkC_ BK198.out 5).trans rfl
           have hcz57_6 : w37.cell? ⟨g198, 6, none⟩ = some (.int .u32 x199006_1) := (bkC_ BK198.out 6).trans rfl
           have hcz57_7 : w37.cell? ⟨g198, 7, none⟩ = some (.int .u32 x199007_1) := (bkC_ BK198.out 7).trans rfl
           have hcz57_8 : w37.cell? ⟨g198, 8, none⟩ = some (.slice Ao34 x199008_1.length co34) := (bkC_ BK198.out 8).trans rfl
           have hfz57_0 := bkF_ BK198.out 0
           have hfz57_1 := bkF_ BK198.out 1
           have hfz57_2 := bkF_ BK198.out 2
           have hfz57_3 := bkF_ BK198.out 3
           have hfz57_4 := bkF_ BK198.out 4
           have hfz57_5 := bkF_ BK198.out 5
           have hfz57_6 := bkF_ BK198.out 6
           have hfz57_7 := bkF_ BK198.out 7
           have hfz57_8 := bkF_ BK198.out 8
           go_wp2
           go_meet
           case rel => exact ⟨_, (t215), (t216), (t217), (t218), (t219), (t220), (t221), (t222), (t223), (.slice Ao43 t223.length co43), H', ⟨by have := HK1.out; first | omega | exact Nat.le_refl _⟩, ⟨by (with_reducible repeat (first | apply Kd.R_alloc | apply Kd.R_drewN | apply Kd.R_drew)); exact Kd.R_mono (RF9_ (g := g198) (RF6_ (g := g234) (RF9_ (g := g233) (Kd.R_types (Kd.R_types (Kd.R_types HO225.out BK233.out (by decide)) BK234.out (by decide)) BK198.out (by decide)) (fun _ hk => hk.1.1.2) _ _ _ _ _ _ _ _ _) (fun _ hk => hk.1.2) _ _ _ _ _ _) (fun _ hk => hk.2) _ _ _ _ _ _ _ _ _) (fun _ hk => trivial)⟩, ⟨by (with_reducible repeat (first | apply Kd.R_alloc | apply Kd.R_drewN | apply Kd.R_drew)); exact Kd.R_mono (RF9_ (g := g198) (RF6_ (g := g234) (RF9_ (g := g233) (Kd.R_types (Kd.R_types (Kd.R_types HO225.out BK233.out (by decide)) BK234.out (by decide)) BK198.out (by decide)) (fun _ hk => hk.1.1.2) _ _ _ _ _ _ _ _ _) (fun _ hk => hk.1.2) _ _ _ _ _ _) (fun _ hk => hk.2) _ _ _ _ _ _ _ _ _) (fun _ hk => trivial)⟩, ⟨by (with_reducible repeat (first | refine bkN_ ?_ _ | refine bkD_ ?_ | refine bkA_ ?_ _)); apply PT9_; (with_reducible repeat (first | refine bkN_ ?_ _ | refine bkD_ ?_ | refine bkA_ ?_ _)); (iterate 6 (refine blk_far ?_ NB198_234.out _; (with_reducible repeat (first | refine bkN_ ?_ _ | refine bkD_ ?_ | refine bkA_ ?_ _)))); (iterate 9 (refine blk_far ?_ NB198_233.out _; (with_reducible repeat (first | refine bkN_ ?_ _ | refine bkD_ ?_ | refine bkA_ ?_ _)))); exact BK198.out⟩, ⟨by (with_reducible repeat (first | refine bkN_ ?_ _ | refine bkD_ ?_ | refine bkA_ ?_ _)); (iterate 9 (refine blk_far ?_ NB199_198.out _; (with_reducible repeat (first | refine bkN_ ?_ _ | refine bkD_ ?_ | refine bkA_ ?_ _)))); (iterate 6 (refine blk_far ?_ NB199_234.out _; (with_reducible repeat (first | refine bkN_ ?_ _ | refine bkD_ ?_ | refine bkA_ ?_ _)))); (iterate 9 (refine blk_far ?_ NB199_233.out _; (with_reducible repeat (first | refine bkN_ ?_ _ | refine bkD_ ?_ | refine bkA_ ?_ _)))); exact BK199.out⟩, ⟨by (with_reducible repeat (first | refine bkN_ ?_ _ | refine bkD_ ?_ | refine bkA_ ?_ _)); (iterate 9 (refine blk_far ?_ NB214_198.out _; (with_reducible repeat (first | refine bkN_ ?_ _ | refine bkD_ ?_ | refine bkA_ ?_ _)))); (iterate 6 (refine blk_far ?_ NB214_234.out _; (with_reducible repeat (first | refine bkN_ ?_ _ | refine bkD_ ?_ | refine bkA_ ?_ _)))); (iterate 9 (refine blk_far ?_ NB214_233.out _; (with_reducible repeat (first | refine bkN_ ?_ _ | refine bkD_ ?_ | refine bkA_ ?_ _)))); exact BK214.out⟩, ⟨by (with_reducible repeat (first | refine bkN_ ?_ _ | refine bkD_ ?_ | refine bkA_ ?_ _)); (iterate 9 (refine blk_far ?_ NB233_198.out _; (with_reducible repeat (first | refine bkN_ ?_ _ | refine bkD_ ?_ | refine bkA_ ?_ _)))); (iterate 6 (refine blk_far ?_ NB233_234.out _; (with_reducible repeat (first | refine bkN_ ?_ _ | refine bkD_ ?_ | refine bkA_ ?_ _)))); apply PT9_; (with_reducible repeat (first | refine bkN_ ?_ _ | refine bkD_ ?_ | refine bkA_ ?_ _)); exact BK233.out⟩, ⟨by (with_reducible repeat (first | refine bkN_ ?_ _ | refine bkD_ ?_ | refine bkA_ ?_ _)); (iterate 9 (refine blk_far ?_ NB234_198.out _; (with_reducible repeat (first | refine bkN_ ?_ _ | refine bkD_ ?_ | refine bkA_ ?_ _)))); apply PT6_; (with_reducible repeat (first | refine bkN_ ?_ _ | refine bkD_ ?_ | refine bkA_ ?_ _)); (iterate 9 (refine blk_far ?_ NB234_233.out _; (with_reducible repeat (first | refine bkN_ ?_ _ | refine bkD_ ?_ | refine bkA_ ?_ _)))); exact BK234.out⟩, ⟨by repeat (first | (with_reducible first | exact HB.out | apply blA_ | apply pbN_ | apply blD_ | refine blS_ ?_ GE198.out | refine blS_ ?_ GE199.out | refine blS_ ?_ GE214.out | refine blS_ ?_ GE233.out | refine blS_ ?_ GE234.out) | exact HB.out)⟩⟩
          ·rw [if_neg c48] at H
           have c48b0 : (t232 == 0) = false := beq_eq_false_iff_ne.mpr c48
           have c48b1 : (t232 != 0) = true := bne_iff_ne.mpr c48
           (first | rw [c48b0] | (simp only [i64_w, i32_w]; rw [c48b0]) | skip)
           have H' := Amk_ H
           clear H
           go_wp2
           go_meet
           case rel => exact ⟨_, (x199000_1), (x199001_1), (x199002_1), (x199003_1), (x199004_1), (x199005_1), (x199006_1), (x199007_1), (x199008_1), (.slice Ao34 x199008_1.length co34), H', ⟨by have := HK1.out; first | omega | exact Nat.le_refl _⟩, ⟨by (with_reducible repeat (first | apply Kd.R_alloc | apply Kd.R_drewN | apply Kd.R_drew)); exact Kd.R_mono (RF6_ (g := g234) (RF9_ (g := g233) (Kd.R_types (Kd.R_types HO_199008.out BK233.out (by decide)) BK234.out (by decide)) (fun _ hk => hk.1.2) _ _ _ _ _ _ _ _ _) (fun _ hk => hk.2) _ _ _ _ _ _) (fun _ _ => trivial)⟩, ⟨by (with_reducible repeat (first | apply Kd.R_alloc | apply Kd.R_drewN | apply Kd.R_drew)); exact Kd.R_mono (RF6_ (g := g234) (RF9_ (g := g233) (Kd.R_types (Kd.R_types HO225.out BK233.out (by decide)) BK234.out (by decide)) (fun _ hk => hk.1.2) _ _ _ _ _ _ _ _ _) (fun _ hk => hk.2) _ _ _ _ _ _) (fun _ _ => trivial)⟩, ⟨by (with_reducible repeat (first | refine bkN_ ?_ _ | refine bkD_ ?_ | refine bkA_ ?_ _)); (iterate 6 (refine blk_far ?_ NB198_234.out _; (with_reducible repeat (first | refine bkN_ ?_ _ | refine bkD_ ?_ | refine bkA_ ?_ _)))); (iterate 9 (refine blk_far ?_ NB198_233.out _; (with_reducible repeat (first | refine bkN_ ?_ _ | refine bkD_ ?_ | refine bkA_ ?_ _)))); exact BK198.out⟩, ⟨by (with_reducible repeat (first | refine bkN_ ?_ _ | refine bkD_ ?_ | refine bkA_ ?_ _)); (iterate 6 (refine blk_far ?_ NB199_234.out _; (with_reducible repeat (first | refine bkN_ ?_ _ | refine bkD_ ?_ | refine bkA_ ?_ _)))); (iterate 9 (refine blk_far ?_ NB199_233.out _; (with_reducible repeat (first | refine bkN_ ?_ _ | refine bkD_ ?_ | refine bkA_ ?_ _)))); exact BK199.out⟩, ⟨by (with_reducible repeat (first | refine bkN_ ?_ _ | refine bkD_ ?_ | refine bkA_ ?_ _)); (iterate 6 (refine blk_far ?_ NB214_234.out _; (with_reducible repeat (first | refine bkN_ ?_ _ | refine bkD_ ?_ | refine bkA_ ?_ _)))); (iterate 9 (refine blk_far ?_ NB214_233.out _; (with_reducible repeat (first | refine bkN_ ?_ _ | refine bkD_ ?_ | refine bkA_ ?_ _)))); exact BK214.out⟩, ⟨by (with_reducible repeat (first | refine bkN_ ?_ _ | refine bkD_ ?_ | refine bkA_ ?_ _)); (iterate 6 (refine blk_far ?_ NB233_234.out _; (with_reducible repeat (first | refine bkN_ ?_ _ | refine bkD_ ?_ | refine bkA_ ?_ _)))); apply PT9_; (with_reducible repeat (first | refine bkN_ ?_ _ | refine bkD_ ?_ | refine bkA_ ?_ _)); exact BK233.out⟩, ⟨by (with_reducible repeat (first | refine bkN_ ?_ _ | refine bkD_ ?_ | refine bkA_ ?_ _)); apply PT6_; (with_reducible repeat (first | refine bkN_ ?_ _ | refine bkD_ ?_ | refine bkA_ ?_ _)); (iterate 9 (refine blk_far ?_ NB234_233.out _; (with_reducible repeat (first | refine bkN_ ?_ _ | refine bkD_ ?_ | refine bkA_ ?_ _)))); exact BK234.out⟩, ⟨by repeat (first | (with_reducible first | exact HB.out | apply blA_ | apply pbN_ | apply blD_ | refine blS_ ?_ GE198.out | refine blS_ ?_ GE199.out | refine blS_ ?_ GE214.out | refine blS_ ?_ GE233.out | refine blS_ ?_ GE234.out) | exact HB.out)⟩⟩
         case rest =>
          clear HC27
          try clear c1
          try clear c2
          try clear p2
          try clear q2
          try clear hx2
          try clear c3
          try clear c4
          try clear c5
          try clear c6
          try clear c7
          try clear c8
          try clear c8b0
          try clear c8b1
          try clear c12
          try clear c15
          try clear c18
          try clear c18b0
          try clear c19
          try clear c19b0
          try clear c20
          try clear c20b0
          try clear c21
          try clear c21b0
          try clear c21b1
          try clear p21
          try clear q21
          try clear hx21
          try clear c23
          try clear c24
          try clear c29
          try clear c30
          try clear c32
          try clear c38
          try clear c39
          try clear c40
          try clear c41
          try clear c44
          try clear c45
          try clear c46
          try clear c48
          try clear c48b0
          try clear c48b1
          try clear c49
          try clear c50
          try clear c51
          try clear c52
          try clear c54
          try clear c55
          try clear c56
          try clear hcz13_0
          try clear hcz13_1
          try clear hcz13_2
          try clear hcz13_3
          try clear hcz13_4
          try clear hcz13_5
          try clear hcz13_6
          try clear hcz13_7
          try clear hcz13_8
          try clear hcz15_0
          try clear hcz15_1
          try clear hcz15_2
          try clear hcz15_3
          try clear hcz15_4
          try clear hcz15_5
          try clear hcz15_6
          try clear hcz15_7
          try clear hcz15_8
          try clear hcz25_0
          try clear hcz25_1
          try clear hcz25_2
          try clear hcz25_3
          try clear hcz25_4
          try clear hcz25_5
          try clear hcz25_6
          try clear hcz31_0
          try clear hcz31_1
          try clear hcz31_2
          try clear hcz31_3
          try clear hcz31_4
          try clear hcz31_5
          try clear hcz31_6
          try clear hcz33_0
          try clear hcz33_1
          try clear hcz33_2
          try clear hcz33_3
          try clear hcz33_4
          try clear hcz33_5
          try clear hcz33_6
          try clear hcz33_7
          try clear hcz33_8
          try clear hcz42_0
          try clear hcz42_1
          try clear hcz42_2
          try clear hcz42_3
          try clear hcz42_4
          try clear hcz42_5
          try clear hcz42_6
          try clear hcz42_7
          try clear hcz42_8
          try clear hcz47_0
          try clear hcz47_1
          try clear hcz47_2
          try clear hcz47_3
          try clear hcz47_4
          try clear hcz47_5
          try clear hcz53_0
          try clear hcz53_1
          try clear hcz53_2
          try clear hcz53_3
          try clear hcz53_4
          try clear hcz53_5
          try clear hcz53_6
          try clear hcz53_7
          try clear hcz53_8
          try clear hcz57_0
          try clear hcz57_1
          try clear hcz57_2
          try clear hcz57_3
          try clear hcz57_4
          try clear hcz57_5
          try clear hcz57_6
          try clear hcz57_7
          try clear hcz57_8
          try clear hfz13_0
          try clear hfz13_1
          try clear hfz13_2
          try clear hfz13_3
          try clear hfz13_4
          try clear hfz13_5
          try clear hfz13_6
          try clear hfz13_7
          try clear hfz13_8
          try clear hfz15_0
          try clear hfz15_1
          try clear hfz15_2
          try clear hfz15_3
          try clear hfz15_4
          try clear hfz15_5
          try clear hfz15_6
          try clear hfz15_7
          try clear hfz15_8
          try clear hfz25_0
          try clear hfz25_1
          try clear hfz25_2
          try clear hfz25_3
          try clear hfz25_4
          try clear hfz25_5
          try clear hfz25_6
          try clear hfz31_0
          try clear hfz31_1
          try clear hfz31_2
          try clear hfz31_3
          try clear hfz31_4
          try clear hfz31_5
          try clear hfz31_6
          try clear hfz33_0
          try clear hfz33_1
          try clear hfz33_2
          try clear hfz33_3
          try clear hfz33_4
          try clear hfz33_5
          try clear hfz33_6
          try clear hfz33_7
          try clear hfz33_8
          try clear hfz42_0
          try clear hfz42_1
          try clear hfz42_2
          try clear hfz42_3
          try clear hfz42_4
          try clear hfz42_5
          try clear hfz42_6
          try clear hfz42_7
          try clear hfz42_8
          try clear hfz47_0
          try clear hfz47_1
          try clear hfz47_2
          try clear hfz47_3
          try clear hfz47_4
          try clear hfz47_5
          try clear hfz53_0
          try clear hfz53_1
          try clear hfz53_2
          try clear hfz53_3
          try clear hfz53_4
          try clear hfz53_5
          try clear hfz53_6
          try clear hfz53_7
          try clear hfz53_8
          try clear hfz57_0
          try clear hfz57_1
          try clear hfz57_2
          try clear hfz57_3
          try clear hfz57_4
          try clear hfz57_5
          try clear hfz57_6
          try clear hfz57_7
          try clear hfz57_8
          try clear hx213_0
          try clear hx213_1
          try clear hx213_2
          try clear hx213_3
          try clear hx213_4
          try clear hx213_5
          try clear hx213_6
          try clear p2
          try clear p213
          try clear q213
          obtain ⟨kq, x199000_26, x199001_26, x199002_26, x199003_26, x199004_26, x199005_26, x199006_26, x199007_26, x199008_26, u199008, HA, HJ26, HO_199008, HO_234008, BK198, BK199, BK214, BK233, BK234, HB⟩ := hcut
          cases kq with
          | zero => exact absurd HA.out (by simp [wicketgatelaw26_SignalForces.j1])
          | succ kj26 =>
           have H := HA.out
           clear HA
           simp only [wicketgatelaw26_SignalForces.j1] at H
           replace H := Option.bind_eq_some_iff.mp H
           obtain ⟨⟨t235, t236, t237, t238, t239, t240, t241, t242, t243, t246, t247, t248, t249, t250, t251, t252⟩, A580, H⟩ := H
           replace H : ((signal_Check.f kj26 x199000_26 x199001_26 x199002_26 x199003_26 x199004_26 x199005_26 x199006_26 x199007_26 x199008_26).bind fun t255 => (if t255 = 0 then (if t252 = 0 then ((signal_Check.f kj26 t235 t236 t237 t238 t239 t240 t241 t242 t243).bind fun t256 => (if t256 = 0 then (if (t246 == t247) = true then (wicketgatelaw26_SignalForces.j2 kj26 l1 (l1.length : Int) x23_1 true x199000_26 x199001_26 x199002_26 x199003_26 x199004_26 x199005_26 x199006_26 x199007_26 x199008_26 a2_0 a2_1 a2_2 a2_3 t235 t236 t237 t238 t239 t240 t241 t242 t243 t246 t247 t248 t249 t250 t251) else (wicketgatelaw26_SignalForces.j2 kj26 l1 (l1.length : Int) x23_1 (!(t248 == a2_0) || (!(t249 == a2_1) || (!(t250 == a2_2) || (!(t251 == a2_3))))) x199000_26 x199001_26 x199002_26 x199003_26 x199004_26 x199005_26 x199006_26 x199007_26 x199008_26 a2_0 a2_1 a2_2 a2_3 t235 t236 t237 t238 t239 t240 t241 t242 t243 t246 t247 t248 t249 t250 t251)) else (wicketgatelaw26_SignalForces.j2 kj26 l1 (l1.length : Int) x23_1 true x199000_26 x199001_26 x199002_26 x199003_26 x199004_26 x199005_26 x199006_26 x199007_26 x199008_26 a2_0 a2_1 a2_2 a2_3 t235 t236 t237 t238 t239 t240 t241 t242 t243 t246 t247 t248 t249 t250 t251))) else (wicketgatelaw26_SignalForces.j2 kj26 l1 (l1.length : Int) x23_1 true x199000_26 x199001_26 x199002_26 x199003_26 x199004_26 x199005_26 x199006_26 x199007_26 x199008_26 a2_0 a2_1 a2_2 a2_3 t235 t236 t237 t238 t239 t240 t241 t242 t243 t246 t247 t248 t249 t250 t251)) else (wicketgatelaw26_SignalForces.j2 kj26 l1 (l1.length : Int) x23_1 true x199000_26 x199001_26 x199002_26 x199003_26 x199004_26 x199005_26 x199006_26 x199007_26 x199008_26 a2_0 a2_1 a2_2 a2_3 t235 t236 t237 t238 t239 t240 t241 t242 t243 t246 t247 t248 t249 t250 t251))) = some r := H
           have A58 := Amk_ A580
           clear A580
           have HC59 := Amk_ H
           clear H
           have hnb60 := NB198_199.out
           have hnc60 := NB199_198.out
           have hnb61 := NB198_214.out
           have hnc61 := NB214_198.out
           have hnb62 := NB198_233.out
           have hnc62 := NB233_198.out
           have hnb63 := NB198_234.out
           have hnc63 := NB234_198.out
           have hcz64_0 : wc.cell? ⟨g198, 0, none⟩ = some (.int .i64 x199000_26) := (bkC_ BK198.out 0).trans rfl
           have hcz64_1 : wc.cell? ⟨g198, 1, none⟩ = some (.bool x199001_26) := (bkC_ BK198.out 1).trans rfl
           have hcz64_2 : wc.cell? ⟨g198, 2, none⟩ = some (.bool x199002_26) := (bkC_ BK198.out 2).trans rfl
           have hcz64_3 : wc.cell? ⟨g198, 3, none⟩ = some (.bool x199003_26) := (bkC_ BK198.out 3).trans rfl
           have hcz64_4 : wc.cell? ⟨g198, 4, none⟩ = some (.int .i64 x199004_26) := (bkC_ BK198.out 4).trans rfl
           have hcz64_5 : wc.cell? ⟨g198, 5, none⟩ = some (.int .i64 x199005_26) := (bkC_ BK198.out 5).trans rfl
           have hcz64_6 : wc.cell? ⟨g198, 6, none⟩ = some (.int .u32 x199006_26) := (bkC_ BK198.out 6).trans rfl
           have hcz64_7 : wc.cell? ⟨g198, 7, none⟩ = some (.int .u32 x199007_26) := (bkC_ BK198.out 7).trans rfl
           have hcz64_8 : wc.cell? ⟨g198, 8, none⟩ = some (u199008) := (bkC_ BK198.out 8).trans rfl
           have hfz64_0 := bkF_ BK198.out 0
           have hfz64_1 := bkF_ BK198.out 1
           have hfz64_2 := bkF_ BK198.out 2
           have hfz64_3 := bkF_ BK198.out 3
           have hfz64_4 := bkF_ BK198.out 4
           have hfz64_5 := bkF_ BK198.out 5
           have hfz64_6 := bkF_ BK198.out 6
           have hfz64_7 := bkF_ BK198.out 7
           have hfz64_8 := bkF_ BK198.out 8
           have hnb65 := NB199_214.out
           have hnc65 := NB214_199.out
           have hnb66 := NB199_233.out
           have hnc66 := NB233_199.out
           have hnb67 := NB199_234.out
           have hnc67 := NB234_199.out
           have hcz68_0 : wc.cell? ⟨g199, 0, none⟩ = some (.int .i64 a2_0) := (bkC_ BK199.out 0).trans rfl
           have hcz68_1 : wc.cell? ⟨g199, 1, none⟩ = some (.int .i64 a2_1) := (bkC_ BK199.out 1).trans rfl
           have hcz68_2 : wc.cell? ⟨g199, 2, none⟩ = some (.int .u32 a2_2) := (bkC_ BK199.out 2).trans rfl
           have hcz68_3 : wc.cell? ⟨g199, 3, none⟩ = some (.int .u32 a2_3) := (bkC_ BK199.out 3).trans rfl
           have hfz68_0 := bkF_ BK199.out 0
           have hfz68_1 := bkF_ BK199.out 1
           have hfz68_2 := bkF_ BK199.out 2
           have hfz68_3 := bkF_ BK199.out 3
           obtain ⟨Ao69, co69, eo69⟩ := Kd.R_slice HO_199008.out
           subst eo69
           go_upto_region 14 with (first | ((with_reducible refine gate_callee (f := 13) rfl ?_); refine goesL_ (some 43) rfl rfl Try.func13 (by kernel_rfl) rfl #[.agg #[.int .i64 x199000_26, .bool x199001_26, .bool x199002_26, .bool x199003_26, .int .i64 x199004_26, .int .i64 x199005_26, .int .u32 x199006_26, .int .u32 x199007_26, .slice Ao69 x199008_26.length co69], .agg #[.int .i64 a2_0, .int .i64 a2_1, .int .u32 a2_2, .int .u32 a2_3]] rfl (by (try simp only [List.map_toArray, List.map_cons, List.map_nil]); first | done | rfl | (simp only [List.length_drop, List.length_take]; rfl)) ?_; (with_reducible refine (signal_Force.calls x199000_26 x199001_26 x199002_26 x199003_26 x199004_26 x199005_26 x199006_26 x199007_26 _ _ x199008_26 a2_0 a2_1 a2_2 a2_3 t235 t236 t237 t238 t239 t240 t241 t242 t243 t246 t247 t248 t249 t250 t251 t252 _ ?side1 ?side2 A58.out).mono ?_); (case side1 => repeat (first | exact (Kd.R_reads' HO_199008.out).2.2 | (with_reducible refine Kd.C_alloc ?_ _) | (with_reducible refine Kd.C_drewN ?_ _) | (with_reducible refine Kd.C_drew ?_))); (case side2 => exact (Kd.R_reads' HO_199008.out).2.1); rintro e w70 ⟨v244, rfl, ho0, hb⟩; refine ⟨_, rfl, ?_⟩; have n0_ := Amk_ (Kd.R_elder' (by (with_reducible repeat (first | apply Kd.R_alloc | apply Kd.R_drewN | apply Kd.R_drew)); exact HO_199008.out) (Kd.R_base ho0) hb); have n1_ := Amk_ (Kd.R_elder' (by (with_reducible repeat (first | apply Kd.R_alloc | apply Kd.R_drewN | apply Kd.R_drew)); exact HO_234008.out) (Kd.R_base ho0) hb); have n2_ := Amk_ (Kd.R_lower (Kd.R_new' (Kd.R_new' ho0 (Kd.R_lt (by (with_reducible repeat (first | apply Kd.R_alloc | apply Kd.R_drewN | apply Kd.R_drew)); exact HO_199008.out))) (Kd.R_lt (by (with_reducible repeat (first | apply Kd.R_alloc | apply Kd.R_drewN | apply Kd.R_drew)); exact HO_234008.out))) (blZ_ (by repeat (first | (with_reducible first | exact HB.out | apply blA_ | apply pbN_ | apply blD_ | refine blS_ ?_ GE198.out | refine blS_ ?_ GE199.out | refine blS_ ?_ GE214.out | refine blS_ ?_ GE233.out | refine blS_ ?_ GE234.out) | exact HB.out)))); have n3_ := Amk_ (bkB_ (g := g198) (o := .cells #[.int .i64 x199000_26, .bool x199001_26, .bool x199002_26, .bool x199003_26, .int .i64 x199004_26, .int .i64 x199005_26, .int .u32 x199006_26, .int .u32 x199007_26, .slice Ao69 x199008_26.length co69] 27 (0, 0)) (by (with_reducible repeat (first | refine bkN_ ?_ _ | refine bkD_ ?_ | refine bkA_ ?_ _)); exact BK198.out) hb); have n4_ := Amk_ (bkB_ (g := g199) (o := .cells #[.int .i64 a2_0, .int .i64 a2_1, .int .u32 a2_2, .int .u32 a2_3] 24 (0, 0)) (by (with_reducible repeat (first | refine bkN_ ?_ _ | refine bkD_ ?_ | refine bkA_ ?_ _)); exact BK199.out) hb); have n5_ := Amk_ (bkB_ (g := g214) (o := .cells #[.int .i64 ((rd_T47 l1 x23_1).f0), .int .i64 ((rd_T47 l1 x23_1).f1), .bool ((rd_T47 l1 x23_1).f2), .int .i64 ((rd_T47 l1 x23_1).f3.f0), .int .i64 ((rd_T47 l1 x23_1).f3.f1), .int .u32 ((rd_T47 l1 x23_1).f3.f2), .int .u32 ((rd_T47 l1 x23_1).f3.f3)] 47 (0, 0)) (by (with_reducible repeat (first | refine bkN_ ?_ _ | refine bkD_ ?_ | refine bkA_ ?_ _)); exact BK214.out) hb); have n6_ := Amk_ (bkB_ (g := g233) (o := .cells #[.int .i64 t215, .bool t216, .bool t217, .bool t218, .int .i64 t219, .int .i64 t220, .int .u32 t221, .int .u32 t222, .slice Ao43 t223.length co43] 27 (0, 0)) (by (with_reducible repeat (first | refine bkN_ ?_ _ | refine bkD_ ?_ | refine bkA_ ?_ _)); exact BK233.out) hb); have n7_ := Amk_ (bkB_ (g := g234) (o := .cells #[.bool t226, .bool t227, .int .i64 t228, .int .i64 t229, .int .u32 t230, .int .u32 t231] 33 (0, 0)) (by (with_reducible repeat (first | refine bkN_ ?_ _ | refine bkD_ ?_ | refine bkA_ ?_ _)); exact BK234.out) hb); have n8_ := Amk_ (blP_ (by repeat (first | (with_reducible first | exact HB.out | apply blA_ | apply pbN_ | apply blD_ | refine blS_ ?_ GE198.out | refine blS_ ?_ GE199.out | refine blS_ ?_ GE214.out | refine blS_ ?_ GE233.out | refine blS_ ?_ GE234.out) | exact HB.out)) hb); clear HO_199008; clear HO_234008; clear BK198; clear BK199; clear BK214; clear BK233; clear BK234; clear HB; have HO_199008 := n0_; have HO_234008 := n1_; have HO245 := n2_; have BK198 := n3_; have BK199 := n4_; have BK214 := n5_; have BK233 := n6_; have BK234 := n7_; have HB := n8_; clear n0_ n1_ n2_ n3_ n4_ n5_ n6_ n7_ n8_; (try clear hb); (try clear hb2); (try clear hk); (try clear hi); (try clear ho0)) | ((with_reducible refine gate_dst (N := 12) rfl ?_); (try (refine gate_guard (by rfl) ?_; dsimp only)); refine box_event ?hg (N := 12) ?hd (cs := #[.int .i64 0, .bool false, .bool false, .bool false, .int .i64 0, .int .i64 0, .int .u32 0, .int .u32 0, .slice none 0 0]) (t := 27) ?hr ?_; (case hd => rfl); (case hg => rfl); (case hr => first | (go_simp; done) | (go_simp; rfl)); intro g253 hg w71 hbox hb; have n0_ := Amk_ (Kd.R_below (by (with_reducible repeat (first | apply Kd.R_alloc | apply Kd.R_drewN | apply Kd.R_drew)); exact HO_199008.out) hb); have n1_ := Amk_ (Kd.R_below (by (with_reducible repeat (first | apply Kd.R_alloc | apply Kd.R_drewN | apply Kd.R_drew)); exact HO_234008.out) hb); have n2_ := Amk_ (Kd.R_below (by (with_reducible repeat (first | apply Kd.R_alloc | apply Kd.R_drewN | apply Kd.R_drew)); exact HO245.out) hb); have n3_ := Amk_ (bkB_ (g := g198) (o := .cells #[.int .i64 x199000_26, .bool x199001_26, .bool x199002_26, .bool x199003_26, .int .i64 x199004_26, .int .i64 x199005_26, .int .u32 x199006_26, .int .u32 x199007_26, .slice Ao69 x199008_26.length co69] 27 (0, 0)) (by (with_reducible repeat (first | refine bkN_ ?_ _ | refine bkD_ ?_ | refine bkA_ ?_ _)); exact BK198.out) hb); have n4_ := Amk_ (bkB_ (g := g199) (o := .cells #[.int .i64 a2_0, .int .i64 a2_1, .int .u32 a2_2, .int .u32 a2_3] 24 (0, 0)) (by (with_reducible repeat (first | refine bkN_ ?_ _ | refine bkD_ ?_ | refine bkA_ ?_ _)); exact BK199.out) hb); have n5_ := Amk_ (bkB_ (g := g214) (o := .cells #[.int .i64 ((rd_T47 l1 x23_1).f0), .int .i64 ((rd_T47 l1 x23_1).f1), .bool ((rd_T47 l1 x23_1).f2), .int .i64 ((rd_T47 l1 x23_1).f3.f0), .int .i64 ((rd_T47 l1 x23_1).f3.f1), .int .u32 ((rd_T47 l1 x23_1).f3.f2), .int .u32 ((rd_T47 l1 x23_1).f3.f3)] 47 (0, 0)) (by (with_reducible repeat (first | refine bkN_ ?_ _ | refine bkD_ ?_ | refine bkA_ ?_ _)); exact BK214.out) hb); have n6_ := Amk_ (bkB_ (g := g233) (o := .cells #[.int .i64 t215, .bool t216, .bool t217, .bool t218, .int .i64 t219, .int .i64 t220, .int .u32 t221, .int .u32 t222, .slice Ao43 t223.length co43] 27 (0, 0)) (by (with_reducible repeat (first | refine bkN_ ?_ _ | refine bkD_ ?_ | refine bkA_ ?_ _)); exact BK233.out) hb); have n7_ := Amk_ (bkB_ (g := g234) (o := .cells #[.bool t226, .bool t227, .int .i64 t228, .int .i64 t229, .int .u32 t230, .int .u32 t231] 33 (0, 0)) (by (with_reducible repeat (first | refine bkN_ ?_ _ | refine bkD_ ?_ | refine bkA_ ?_ _)); exact BK234.out) hb); have n8_ := Amk_ (blP_ (by repeat (first | (with_reducible first | exact HB.out | apply blA_ | apply pbN_ | apply blD_ | refine blS_ ?_ GE198.out | refine blS_ ?_ GE199.out | refine blS_ ?_ GE214.out | refine blS_ ?_ GE233.out | refine blS_ ?_ GE234.out) | exact HB.out)) hb); have n9_ := Amk_ (hbox); have n10_ := Amk_ ((by rw [hg]; exact (blZ_ (by repeat (first | (with_reducible first | exact HB.out | apply blA_ | apply pbN_ | apply blD_ | refine blS_ ?_ GE198.out | refine blS_ ?_ GE199.out | refine blS_ ?_ GE214.out | refine blS_ ?_ GE233.out | refine blS_ ?_ GE234.out) | exact HB.out))) : w.heap.size ≤ g253)); have n11_ := Amk_ ((by rw [hg]; exact (blZ_ (by repeat (first | (with_reducible first | exact HB.out | apply blA_ | apply pbN_ | apply blD_ | refine blS_ ?_ GE198.out | refine blS_ ?_ GE199.out | refine blS_ ?_ GE214.out | refine blS_ ?_ GE233.out | refine blS_ ?_ GE234.out) | exact HB.out))) : w.heap.size ≤ g253)); have n12_ := Amk_ ((by rw [hg]; exact Nat.ne_of_lt (blk_lt (g := g198) (o := .cells #[.int .i64 x199000_26, .bool x199001_26, .bool x199002_26, .bool x199003_26, .int .i64 x199004_26, .int .i64 x199005_26, .int .u32 x199006_26, .int .u32 x199007_26, .slice Ao69 x199008_26.length co69] 27 (0, 0)) (by (with_reducible repeat (first | refine bkN_ ?_ _ | refine bkD_ ?_ | refine bkA_ ?_ _)); exact BK198.out)) : g198 ≠ g253)); have n13_ := Amk_ ((by rw [hg]; exact Nat.ne_of_gt (blk_lt (g := g198) (o := .cells #[.int .i64 x199000_26, .bool x199001_26, .bool x199002_26, .bool x199003_26, .int .i64 x199004_26, .int .i64 x199005_26, .int .u32 x199006_26, .int .u32 x199007_26, .slice Ao69 x199008_26.length co69] 27 (0, 0)) (by (with_reducible repeat (first | refine bkN_ ?_ _ | refine bkD_ ?_ | refine bkA_ ?_ _)); exact BK198.out)) : g253 ≠ g198)); have n14_ := Amk_ ((by rw [hg]; exact Nat.ne_of_lt (blk_lt (g := g199) (o := .cells #[.int .i64 a2_0, .int .i64 a2_1, .int .u32 a2_2, .int .u32 a2_3] 24 (0, 0)) (by (with_reducible repeat (first | refine bkN_ ?_ _ | refine bkD_ ?_ | refine bkA_ ?_ _)); exact BK199.out)) : g199 ≠ g253)); have n15_ := Amk_ ((by rw [hg]; exact Nat.ne_of_gt (blk_lt (g := g199) (o := .cells #[.int .i64 a2_0, .int .i64 a2_1, .int .u32 a2_2, .int .u32 a2_3] 24 (0, 0)) (by (with_reducible repeat (first | refine bkN_ ?_ _ | refine bkD_ ?_ | refine bkA_ ?_ _)); exact BK199.out)) : g253 ≠ g199)); have n16_ := Amk_ ((by rw [hg]; exact Nat.ne_of_lt (blk_lt (g := g214) (o := .cells #[.int .i64 ((rd_T47 l1 x23_1).f0), .int .i64 ((rd_T47 l1 x23_1).f1), .bool ((rd_T47 l1 x23_1).f2), .int .i64 ((rd_T47 l1 x23_1).f3.f0), .int .i64 ((rd_T47 l1 x23_1).f3.f1), .int .u32 ((rd_T47 l1 x23_1).f3.f2), .int .u32 ((rd_T47 l1 x23_1).f3.f3)] 47 (0, 0)) (by (with_reducible repeat (first | refine bkN_ ?_ _ | refine bkD_ ?_ | refine bkA_ ?_ _)); exact BK214.out)) : g214 ≠ g253)); have n17_ := Amk_ ((by rw [hg]; exact Nat.ne_of_gt (blk_lt (g := g214) (o := .cells #[.int .i64 ((rd_T47 l1 x23_1).f0), .int .i64 ((rd_T47 l1 x23_1).f1), .bool ((rd_T47 l1 x23_1).f2), .int .i64 ((rd_T47 l1 x23_1).f3.f0), .int .i64 ((rd_T47 l1 x23_1).f3.f1), .int .u32 ((rd_T47 l1 x23_1).f3.f2), .int .u32 ((rd_T47 l1 x23_1).f3.f3)] 47 (0, 0)) (by (with_reducible repeat (first | refine bkN_ ?_ _ | refine bkD_ ?_ | refine bkA_ ?_ _)); exact BK214.out)) : g253 ≠ g214)); have n18_ := Amk_ ((by rw [hg]; exact Nat.ne_of_lt (blk_lt (g := g233) (o := .cells #[.int .i64 t215, .bool t216, .bool t217, .bool t218, .int .i64 t219, .int .i64 t220, .int .u32 t221, .int .u32 t222, .slice Ao43 t223.length co43] 27 (0, 0)) (by (with_reducible repeat (first | refine bkN_ ?_ _ | refine bkD_ ?_ | refine bkA_ ?_ _)); exact BK233.out)) : g233 ≠ g253)); have n19_ := Amk_ ((by rw [hg]; exact Nat.ne_of_gt (blk_lt (g := g233) (o := .cells #[.int .i64 t215, .bool t216, .bool t217, .bool t218, .int .i64 t219, .int .i64 t220, .int .u32 t221, .int .u32 t222, .slice Ao43 t223.length co43] 27 (0, 0)) (by (with_reducible repeat (first | refine bkN_ ?_ _ | refine bkD_ ?_ | refine bkA_ ?_ _)); exact BK233.out)) : g253 ≠ g233)); have n20_ := Amk_ ((by rw [hg]; exact Nat.ne_of_lt (blk_lt (g := g234) (o := .cells #[.bool t226, .bool t227, .int .i64 t228, .int .i64 t229, .int .u32 t230, .int .u32 t231] 33 (0, 0)) (by (with_reducible repeat (first | refine bkN_ ?_ _ | refine bkD_ ?_ | refine bkA_ ?_ _)); exact BK234.out)) : g234 ≠ g253)); have n21_ := Amk_ ((by rw [hg]; exact Nat.ne_of_gt (blk_lt (g := g234) (o := .cells #[.bool t226, .bool t227, .int .i64 t228, .int .i64 t229, .int .u32 t230, .int .u32 t231] 33 (0, 0)) (by (with_reducible repeat (first | refine bkN_ ?_ _ | refine bkD_ ?_ | refine bkA_ ?_ _)); exact BK234.out)) : g253 ≠ g234)); clear HO_199008; clear HO_234008; clear HO245; clear BK198; clear BK199; clear BK214; clear BK233; clear BK234; clear HB; have HO_199008 := n0_; have HO_234008 := n1_; have HO245 := n2_; have BK198 := n3_; have BK199 := n4_; have BK214 := n5_; have BK233 := n6_; have BK234 := n7_; have HB := n8_; have BK253 := n9_; have GW253 := n10_; have GE253 := n11_; have NB198_253 := n12_; have NB253_198 := n13_; have NB199_253 := n14_; have NB253_199 := n15_; have NB214_253 := n16_; have NB253_214 := n17_; have NB233_253 := n18_; have NB253_233 := n19_; have NB234_253 := n20_; have NB253_234 := n21_; clear n0_ n1_ n2_ n3_ n4_ n5_ n6_ n7_ n8_ n9_ n10_ n11_ n12_ n13_ n14_ n15_ n16_ n17_ n18_ n19_ n20_ n21_; clear hb hbox hg) | ((with_reducible refine gate_dst (N := 13) rfl ?_); (try (refine gate_guard (by rfl) ?_; dsimp only)); refine box_event ?hg (N := 13) ?hd (cs := #[.bool false, .bool false, .int .i64 0, .int .i64 0, .int .u32 0, .int .u32 0]) (t := 33) ?hr ?_; (case hd => rfl); (case hg => rfl); (case hr => first | (go_simp; done) | (go_simp; rfl)); intro g254 hg w72 hbox hb; have n0_ := Amk_ (Kd.R_below (by (with_reducible repeat (first | apply Kd.R_alloc | apply Kd.R_drewN | apply Kd.R_drew)); exact HO_199008.out) hb); have n1_ := Amk_ (Kd.R_below (by (with_reducible repeat (first | apply Kd.R_alloc | apply Kd.R_drewN | apply Kd.R_drew)); exact HO_234008.out) hb); have n2_ := Amk_ (Kd.R_below (by (with_reducible repeat (first | apply Kd.R_alloc | apply Kd.R_drewN | apply Kd.R_drew)); exact HO245.out) hb); have n3_ := Amk_ (bkB_ (g := g198) (o := .cells #[.int .i64 x199000_26, .bool x199001_26, .bool x199002_26, .bool x199003_26, .int .i64 x199004_26, .int .i64 x199005_26, .int .u32 x199006_26, .int .u32 x199007_26, .slice Ao69 x199008_26.length co69] 27 (0, 0)) (by (with_reducible repeat (first | refine bkN_ ?_ _ | refine bkD_ ?_ | refine bkA_ ?_ _)); exact BK198.out) hb); have n4_ := Amk_ (bkB_ (g := g199) (o := .cells #[.int .i64 a2_0, .int .i64 a2_1, .int .u32 a2_2, .int .u32 a2_3] 24 (0, 0)) (by (with_reducible repeat (first | refine bkN_ ?_ _ | refine bkD_ ?_ | refine bkA_ ?_ _)); exact BK199.out) hb); have n5_ := Amk_ (bkB_ (g := g214) (o := .cells #[.int .i64 ((rd_T47 l1 x23_1).f0), .int .i64 ((rd_T47 l1 x23_1).f1), .bool ((rd_T47 l1 x23_1).f2), .int .i64 ((rd_T47 l1 x23_1).f3.f0), .int .i64 ((rd_T47 l1 x23_1).f3.f1), .int .u32 ((rd_T47 l1 x23_1).f3.f2), .int .u32 ((rd_T47 l1 x23_1).f3.f3)] 47 (0, 0)) (by (with_reducible repeat (first | refine bkN_ ?_ _ | refine bkD_ ?_ | refine bkA_ ?_ _)); exact BK214.out) hb); have n6_ := Amk_ (bkB_ (g := g233) (o := .cells #[.int .i64 t215, .bool t216, .bool t217, .bool t218, .int .i64 t219, .int .i64 t220, .int .u32 t221, .int .u32 t222, .slice Ao43 t223.length co43] 27 (0, 0)) (by (with_reducible repeat (first | refine bkN_ ?_ _ | refine bkD_ ?_ | refine bkA_ ?_ _)); exact BK233.out) hb); have n7_ := Amk_ (bkB_ (g := g234) (o := .cells #[.bool t226, .bool t227, .int .i64 t228, .int .i64 t229, .int .u32 t230, .int .u32 t231] 33 (0, 0)) (by (with_reducible repeat (first | refine bkN_ ?_ _ | refine bkD_ ?_ | refine bkA_ ?_ _)); exact BK234.out) hb); have n8_ := Amk_ (bkB_ (g := g253) (o := .cells #[.int .i64 0, .bool false, .bool false, .bool false, .int .i64 0, .int .i64 0, .int .u32 0, .int .u32 0, .slice none 0 0] 27 (0, 0)) (by (with_reducible repeat (first | refine bkN_ ?_ _ | refine bkD_ ?_ | refine bkA_ ?_ _)); exact BK253.out) hb); have n9_ := Amk_ (blP_ (by repeat (first | (with_reducible first | exact HB.out | apply blA_ | apply pbN_ | apply blD_ | refine blS_ ?_ GE198.out | refine blS_ ?_ GE199.out | refine blS_ ?_ GE214.out | refine blS_ ?_ GE233.out | refine blS_ ?_ GE234.out | refine blS_ ?_ GE253.out) | exact HB.out)) hb); have n10_ := Amk_ (hbox); have n11_ := Amk_ ((by rw [hg]; exact (blZ_ (by repeat (first | (with_reducible first | exact HB.out | apply blA_ | apply pbN_ | apply blD_ | refine blS_ ?_ GE198.out | refine blS_ ?_ GE199.out | refine blS_ ?_ GE214.out | refine blS_ ?_ GE233.out | refine blS_ ?_ GE234.out | refine blS_ ?_ GE253.out) | exact HB.out))) : w.heap.size ≤ g254)); have n12_ := Amk_ ((by rw [hg]; exact (blZ_ (by repeat (first | (with_reducible first | exact HB.out | apply blA_ | apply pbN_ | apply blD_ | refine blS_ ?_ GE198.out | refine blS_ ?_ GE199.out | refine blS_ ?_ GE214.out | refine blS_ ?_ GE233.out | refine blS_ ?_ GE234.out | refine blS_ ?_ GE253.out) | exact HB.out))) : w.heap.size ≤ g254)); have n13_ := Amk_ ((by rw [hg]; exact Nat.ne_of_lt (blk_lt (g := g198) (o := .cells #[.int .i64 x199000_26, .bool x199001_26, .bool x199002_26, .bool x199003_26, .int .i64 x199004_26, .int .i64 x199005_26, .int .u32 x199006_26, .int .u32 x199007_26, .slice Ao69 x199008_26.length co69] 27 (0, 0)) (by (with_reducible repeat (first | refine bkN_ ?_ _ | refine bkD_ ?_ | refine bkA_ ?_ _)); exact BK198.out)) : g198 ≠ g254)); have n14_ := Amk_ ((by rw [hg]; exact Nat.ne_of_gt (blk_lt (g := g198) (o := .cells #[.int .i64 x199000_26, .bool x199001_26, .bool x199002_26, .bool x199003_26, .int .i64 x199004_26, .int .i64 x199005_26, .int .u32 x199006_26, .int .u32 x199007_26, .slice Ao69 x199008_26.length co69] 27 (0, 0)) (by (with_reducible repeat (first | refine bkN_ ?_ _ | refine bkD_ ?_ | refine bkA_ ?_ _)); exact BK198.out)) : g254 ≠ g198)); have n15_ := Amk_ ((by rw [hg]; exact Nat.ne_of_lt (blk_lt (g := g199) (o := .cells #[.int .i64 a2_0, .int .i64 a2_1, .int .u32 a2_2, .int .u32 a2_3] 24 (0, 0)) (by (with_reducible repeat (first | refine bkN_ ?_ _ | refine bkD_ ?_ | refine bkA_ ?_ _)); exact BK199.out)) : g199 ≠ g254)); have n16_ := Amk_ ((by rw [hg]; exact Nat.ne_of_gt (blk_lt (g := g199) (o := .cells #[.int .i64 a2_0, .int .i64 a2_1, .int .u32 a2_2, .int .u32 a2_3] 24 (0, 0)) (by (with_reducible repeat (first | refine bkN_ ?_ _ | refine bkD_ ?_ | refine bkA_ ?_ _)); exact BK199.out)) : g254 ≠ g199)); have n17_ := Amk_ ((by rw [hg]; exact Nat.ne_of_lt (blk_lt (g := g214) (o := .cells #[.int .i64 ((rd_T47 l1 x23_1).f0), .int .i64 ((rd_T47 l1 x23_1).f1), .bool ((rd_T47 l1 x23_1).f2), .int .i64 ((rd_T47 l1 x23_1).f3.f0), .int .i64 ((rd_T47 l1 x23_1).f3.f1), .int .u32 ((rd_T47 l1 x23_1).f3.f2), .int .u32 ((rd_T47 l1 x23_1).f3.f3)] 47 (0, 0)) (by (with_reducible repeat (first | refine bkN_ ?_ _ | refine bkD_ ?_ | refine bkA_ ?_ _)); exact BK214.out)) : g214 ≠ g254)); have n18_ := Amk_ ((by rw [hg]; exact Nat.ne_of_gt (blk_lt (g := g214) (o := .cells #[.int .i64 ((rd_T47 l1 x23_1).f0), .int .i64 ((rd_T47 l1 x23_1).f1), .bool ((rd_T47 l1 x23_1).f2), .int .i64 ((rd_T47 l1 x23_1).f3.f0), .int .i64 ((rd_T47 l1 x23_1).f3.f1), .int .u32 ((rd_T47 l1 x23_1).f3.f2), .int .u32 ((rd_T47 l1 x23_1).f3.f3)] 47 (0, 0)) (by (with_reducible repeat (first | refine bkN_ ?_ _ | refine bkD_ ?_ | refine bkA_ ?_ _)); exact BK214.out)) : g254 ≠ g214)); have n19_ := Amk_ ((by rw [hg]; exact Nat.ne_of_lt (blk_lt (g := g233) (o := .cells #[.int .i64 t215, .bool t216, .bool t217, .bool t218, .int .i64 t219, .int .i64 t220, .int .u32 t221, .int .u32 t222, .slice Ao43 t223.length co43] 27 (0, 0)) (by (with_reducible repeat (first | refine bkN_ ?_ _ | refine bkD_ ?_ | refine bkA_ ?_ _)); exact BK233.out)) : g233 ≠ g254)); have n20_ := Amk_ ((by rw [hg]; exact Nat.ne_of_gt (blk_lt (g := g233) (o := .cells #[.int .i64 t215, .bool t216, .bool t217, .bool t218, .int .i64 t219, .int .i64 t220, .int .u32 t221, .int .u32 t222, .slice Ao43 t223.length co43] 27 (0, 0)) (by (with_reducible repeat (first | refine bkN_ ?_ _ | refine bkD_ ?_ | refine bkA_ ?_ _)); exact BK233.out)) : g254 ≠ g233)); have n21_ := Amk_ ((by rw [hg]; exact Nat.ne_of_lt (blk_lt (g := g234) (o := .cells #[.bool t226, .bool t227, .int .i64 t228, .int .i64 t229, .int .u32 t230, .int .u32 t231] 33 (0, 0)) (by (with_reducible repeat (first | refine bkN_ ?_ _ | refine bkD_ ?_ | refine bkA_ ?_ _)); exact BK234.out)) : g234 ≠ g254)); have n22_ := Amk_ ((by rw [hg]; exact Nat.ne_of_gt (blk_lt (g := g234) (o := .cells #[.bool t226, .bool t227, .int .i64 t228, .int .i64 t229, .int .u32 t230, .int .u32 t231] 33 (0, 0)) (by (with_reducible repeat (first | refine bkN_ ?_ _ | refine bkD_ ?_ | refine bkA_ ?_ _)); exact BK234.out)) : g254 ≠ g234)); have n23_ := Amk_ ((by rw [hg]; exact Nat.ne_of_lt (blk_lt (g := g253) (o := .cells #[.int .i64 0, .bool false, .bool false, .bool false, .int .i64 0, .int .i64 0, .int .u32 0, .int .u32 0, .slice none 0 0] 27 (0, 0)) (by (with_reducible repeat (first | refine bkN_ ?_ _ | refine bkD_ ?_ | refine bkA_ ?_ _)); exact BK253.out)) : g253 ≠ g254)); have n24_ := Amk_ ((by rw [hg]; exact Nat.ne_of_gt (blk_lt (g := g253) (o := .cells #[.int .i64 0, .bool false, .bool false, .bool false, .int .i64 0, .int .i64 0, .int .u32 0, .int .u32 0, .slice none 0 0] 27 (0, 0)) (by (with_reducible repeat (first | refine bkN_ ?_ _ | refine bkD_ ?_ | refine bkA_ ?_ _)); exact BK253.out)) : g254 ≠ g253)); clear HO_199008; clear HO_234008; clear HO245; clear BK198; clear BK199; clear BK214; clear BK233; clear BK234; clear BK253; clear HB; have HO_199008 := n0_; have HO_234008 := n1_; have HO245 := n2_; have BK198 := n3_; have BK199 := n4_; have BK214 := n5_; have BK233 := n6_; have BK234 := n7_; have BK253 := n8_; have HB := n9_; have BK254 := n10_; have GW254 := n11_; have GE254 := n12_; have NB198_254 := n13_; have NB254_198 := n14_; have NB199_254 := n15_; have NB254_199 := n16_; have NB214_254 := n17_; have NB254_214 := n18_; have NB233_254 := n19_; have NB254_233 := n20_; have NB234_254 := n21_; have NB254_234 := n22_; have NB253_254 := n23_; have NB254_253 := n24_; clear n0_ n1_ n2_ n3_ n4_ n5_ n6_ n7_ n8_ n9_ n10_ n11_ n12_ n13_ n14_ n15_ n16_ n17_ n18_ n19_ n20_ n21_ n22_ n23_ n24_; clear hb hbox hg; have hnb73 := NB253_198.out; have hnc73 := NB198_253.out; have hnb74 := NB253_199.out; have hnc74 := NB199_253.out; have hnb75 := NB253_214.out; have hnc75 := NB214_253.out; have hnb76 := NB253_233.out; have hnc76 := NB233_253.out; have hnb77 := NB253_234.out; have hnc77 := NB234_253.out; have hnb78 := NB253_254.out; have hnc78 := NB254_253.out; have hcz79_0 : w72.cell? ⟨g253, 0, none⟩ = some (.int .i64 0) := (bkC_ BK253.out 0).trans rfl; have hcz79_1 : w72.cell? ⟨g253, 1, none⟩ = some (.bool false) := (bkC_ BK253.out 1).trans rfl; have hcz79_2 : w72.cell? ⟨g253, 2, none⟩ = some (.bool false) := (bkC_ BK253.out 2).trans rfl; have hcz79_3 : w72.cell? ⟨g253, 3, none⟩ = some (.bool false) := (bkC_ BK253.out 3).trans rfl; have hcz79_4 : w72.cell? ⟨g253, 4, none⟩ = some (.int .i64 0) := (bkC_ BK253.out 4).trans rfl; have hcz79_5 : w72.cell? ⟨g253, 5, none⟩ = some (.int .i64 0) := (bkC_ BK253.out 5).trans rfl; have hcz79_6 : w72.cell? ⟨g253, 6, none⟩ = some (.int .u32 0) := (bkC_ BK253.out 6).trans rfl; have hcz79_7 : w72.cell? ⟨g253, 7, none⟩ = some (.int .u32 0) := (bkC_ BK253.out 7).trans rfl; have hcz79_8 : w72.cell? ⟨g253, 8, none⟩ = some (.slice none 0 0) := (bkC_ BK253.out 8).trans rfl; have hfz79_0 := bkF_ BK253.out 0; have hfz79_1 := bkF_ BK253.out 1; have hfz79_2 := bkF_ BK253.out 2; have hfz79_3 := bkF_ BK253.out 3; have hfz79_4 := bkF_ BK253.out 4; have hfz79_5 := bkF_ BK253.out 5; have hfz79_6 := bkF_ BK253.out 6; have hfz79_7 := bkF_ BK253.out 7; have hfz79_8 := bkF_ BK253.out 8; obtain ⟨Ao80, co80, eo80⟩ := Kd.R_slice HO245.out; subst eo80; have hnb81 := NB254_198.out; have hnc81 := NB198_254.out; have hnb82 := NB254_199.out; have hnc82 := NB199_254.out; have hnb83 := NB254_214.out; have hnc83 := NB214_254.out; have hnb84 := NB254_233.out; have hnc84 := NB233_254.out; have hnb85 := NB254_234.out; have hnc85 := NB234_254.out; have hcz86_0 : w72.cell? ⟨g254, 0, none⟩ = some (.bool false) := (bkC_ BK254.out 0).trans rfl; have hcz86_1 : w72.cell? ⟨g254, 1, none⟩ = some (.bool false) := (bkC_ BK254.out 1).trans rfl; have hcz86_2 : w72.cell? ⟨g254, 2, none⟩ = some (.int .i64 0) := (bkC_ BK254.out 2).trans rfl; have hcz86_3 : w72.cell? ⟨g254, 3, none⟩ = some (.int .i64 0) := (bkC_ BK254.out 3).trans rfl; have hcz86_4 : w72.cell? ⟨g254, 4, none⟩ = some (.int .u32 0) := (bkC_ BK254.out 4).trans rfl; have hcz86_5 : w72.cell? ⟨g254, 5, none⟩ = some (.int .u32 0) := (bkC_ BK254.out 5).trans rfl; have hfz86_0 := bkF_ BK254.out 0; have hfz86_1 := bkF_ BK254.out 1; have hfz86_2 := bkF_ BK254.out 2; have hfz86_3 := bkF_ BK254.out 3; have hfz86_4 := bkF_ BK254.out 4; have hfz86_5 := bkF_ BK254.out 5))
           (try simp only [Act.put, List.setIfInBounds_toArray, List.set_cons_zero, List.set_cons_succ])
           go_cut [71] (fun v71 wc => ∃ (kq : Nat) (x71_58 : Bool), v71 = .bool x71_58 ∧ Aside0 (wicketgatelaw26_SignalForces.j2 kq l1 (l1.length : Int) x23_1 x71_58 x199000_26 x199001_26 x199002_26 x199003_26 x199004_26 x199005_26 x199006_26 x199007_26 x199008_26 a2_0 a2_1 a2_2 a2_3 t235 t236 t237 t238 t239 t240 t241 t242 t243 t246 t247 t248 t249 t250 t251 = some r) ∧ Aside0 (kq ≤ kj26) ∧ Aside0 (Kd.R Kd.bool 4 wc w.heap.size (fun k_ => True ∧ some k_ ≠ ((.slice Ao80 t243.length co80) : Value).ownBlock) (.slice Ao69 x199008_26.length co69) x199008_26) ∧ Aside0 (Kd.R Kd.bool 4 wc w.heap.size (fun k_ => True ∧ some k_ ≠ ((.slice Ao80 t243.length co80) : Value).ownBlock) (.slice Ao43 t223.length co43) t223) ∧ Aside0 (Kd.R Kd.bool 4 wc w.heap.size (fun k_ => some k_ ≠ ((.slice Ao69 x199008_26.length co69) : Value).ownBlock ∧ some k_ ≠ ((.slice Ao43 t223.length co43) : Value).ownBlock) (.slice Ao80 t243.length co80) t243) ∧ Aside0 (wc.heap[g198]? = some (.cells #[.int .i64 x199000_26, .bool x199001_26, .bool x199002_26, .bool x199003_26, .int .i64 x199004_26, .int .i64 x199005_26, .int .u32 x199006_26, .int .u32 x199007_26, (.slice Ao69 x199008_26.length co69)] 27 (0, 0))) ∧ Aside0 (wc.heap[g199]? = some (.cells #[.int .i64 a2_0, .int .i64 a2_1, .int .u32 a2_2, .int .u32 a2_3] 24 (0, 0))) ∧ Aside0 (wc.heap[g214]? = some (.cells #[.int .i64 ((rd_T47 l1 x23_1).f0), .int .i64 ((rd_T47 l1 x23_1).f1), .bool ((rd_T47 l1 x23_1).f2), .int .i64 ((rd_T47 l1 x23_1).f3.f0), .int .i64 ((rd_T47 l1 x23_1).f3.f1), .int .u32 ((rd_T47 l1 x23_1).f3.f2), .int .u32 ((rd_T47 l1 x23_1).f3.f3)] 47 (0, 0))) ∧ Aside0 (wc.heap[g233]? = some (.cells #[.int .i64 t215, .bool t216, .bool t217, .bool t218, .int .i64 t219, .int .i64 t220, .int .u32 t221, .int .u32 t222, (.slice Ao43 t223.length co43)] 27 (0, 0))) ∧ Aside0 (wc.heap[g234]? = some (.cells #[.bool t226, .bool t227, .int .i64 t228, .int .i64 t229, .int .u32 t230, .int .u32 t231] 33 (0, 0))) ∧ Aside0 (wc.heap[g253]? = some (.cells #[.int .i64 t235, .bool t236, .bool t237, .bool t238, .int .i64 t239, .int .i64 t240, .int .u32 t241, .int .u32 t242, (.slice Ao80 t243.length co80)] 27 (0, 0))) ∧ Aside0 (wc.heap[g254]? = some (.cells #[.bool t246, .bool t247, .int .i64 t248, .int .i64 t249, .int .u32 t250, .int .u32 t251] 33 (0, 0))) ∧ Aside0 (Below w.heap.size w wc))
           case first =>
            have H := HC59.out
            clear HC59
            replace H := Option.bind_eq_some_iff.mp H
            obtain ⟨t255, A870, H⟩ := H
            replace H : (if t255 = 0 then (if t252 = 0 then ((signal_Check.f kj26 t235 t236 t237 t238 t239 t240 t241 t242 t243).bind fun t256 => (if t256 = 0 then (if (t246 == t247) = true then (wicketgatelaw26_SignalForces.j2 kj26 l1 (l1.length : Int) x23_1 true x199000_26 x199001_26 x199002_26 x199003_26 x199004_26 x199005_26 x199006_26 x199007_26 x199008_26 a2_0 a2_1 a2_2 a2_3 t235 t236 t237 t238 t239 t240 t241 t242 t243 t246 t247 t248 t249 t250 t251) else (wicketgatelaw26_SignalForces.j2 kj26 l1 (l1.length : Int) x23_1 (!(t248 == a2_0) || (!(t249 == a2_1) || (!(t250 == a2_2) || (!(t251 == a2_3))))) x199000_26 x199001_26 x199002_26 x199003_26 x199004_26 x199005_26 x199006_26 x199007_26 x199008_26 a2_0 a2_1 a2_2 a2_3 t235 t236 t237 t238 t239 t240 t241 t242 t243 t246 t247 t248 t249 t250 t251)) else (wicketgatelaw26_SignalForces.j2 kj26 l1 (l1.length : Int) x23_1 true x199000_26 x199001_26 x199002_26 x199003_26 x199004_26 x199005_26 x199006_26 x199007_26 x199008_26 a2_0 a2_1 a2_2 a2_3 t235 t236 t237 t238 t239 t240 t241 t242 t243 t246 t247 t248 t249 t250 t251))) else (wicketgatelaw26_SignalForces.j2 kj26 l1 (l1.length : Int) x23_1 true x199000_26 x199001_26 x199002_26 x199003_26 x199004_26 x199005_26 x199006_26 x199007_26 x199008_26 a2_0 a2_1 a2_2 a2_3 t235 t236 t237 t238 t239 t240 t241 t242 t243 t246 t247 t248 t249 t250 t251)) else (wicketgatelaw26_SignalForces.j2 kj26 l1 (l1.length : Int) x23_1 true x199000_26 x199001_26 x199002_26 x199003_26 x199004_26 x199005_26 x199006_26 x199007_26 x199008_26 a2_0 a2_1 a2_2 a2_3 t235 t236 t237 t238 t239 t240 t241 t242 t243 t246 t247 t248 t249 t250 t251)) = some r := H
            have A87 := Amk_ A870
            clear A870
            by_cases c88 : t255 = 0
            ·rw [if_pos c88] at H
             have c88b0 : (t255 == 0) = true := beq_iff_eq.mpr c88
             have c88b1 : (t255 != 0) = false := bne_eq_false_iff_eq.mpr c88
             clear c88
             (first | rw [c88b0] | (simp only [i64_w, i32_w]; rw [c88b0]) | skip)
             by_cases c89 : t252 = 0
             ·rw [if_pos c89] at H
              have c89b0 : (t252 == 0) = true := beq_iff_eq.mpr c89
              have c89b1 : (t252 != 0) = false := bne_eq_false_iff_eq.mpr c89
              clear c89
              replace H := Option.bind_eq_some_iff.mp H
              obtain ⟨t256, A900, H⟩ := H
              replace H : (if t256 = 0 then (if (t246 == t247) = true then (wicketgatelaw26_SignalForces.j2 kj26 l1 (l1.length : Int) x23_1 true x199000_26 x199001_26 x199002_26 x199003_26 x199004_26 x199005_26 x199006_26 x199007_26 x199008_26 a2_0 a2_1 a2_2 a2_3 t235 t236 t237 t238 t239 t240 t241 t242 t243 t246 t247 t248 t249 t250 t251) else (wicketgatelaw26_SignalForces.j2 kj26 l1 (l1.length : Int) x23_1 (!(t248 == a2_0) || (!(t249 == a2_1) || (!(t250 == a2_2) || (!(t251 == a2_3))))) x199000_26 x199001_26 x199002_26 x199003_26 x199004_26 x199005_26 x199006_26 x199007_26 x199008_26 a2_0 a2_1 a2_2 a2_3 t235 t236 t237 t238 t239 t240 t241 t242 t243 t246 t247 t248 t249 t250 t251)) else (wicketgatelaw26_SignalForces.j2 kj26 l1 (l1.length : Int) x23_1 true x199000_26 x199001_26 x199002_26 x199003_26 x199004_26 x199005_26 x199006_26 x199007_26 x199008_26 a2_0 a2_1 a2_2 a2_3 t235 t236 t237 t238 t239 t240 t241 t242 t243 t246 t247 t248 t249 t250 t251)) = some r := H
              have A90 := Amk_ A900
              clear A900
              by_cases c91 : t256 = 0
              ·rw [if_pos c91] at H
               have c91b0 : (t256 == 0) = true := beq_iff_eq.mpr c91
               have c91b1 : (t256 != 0) = false := bne_eq_false_iff_eq.mpr c91
               clear c91
               by_cases c92 : (t246 == t247) = true
               ·rw [if_pos c92] at H
                have c92b0 : (t246 == t247) = true := c92
                (try (have c92b1 : decide (t246 = t247) = true := by simpa using c92))
                (try (have c92b2 : (t246 == t247) = true := by simpa using c92))
                clear c92
                have H' := Amk_ H
                clear H
                have hnb93 := NB198_199.out
                have hnc93 := NB199_198.out
                have hnb94 := NB198_214.out
                have hnc94 := NB214_198.out
                have hnb95 := NB198_233.out
                have hnc95 := NB233_198.out
                have hnb96 := NB198_234.out
                have hnc96 := NB234_198.out
                have hnb97 := NB198_253.out
                have hnc97 := NB253_198.out
                have hnb98 := NB198_254.out
                have hnc98 := NB254_198.out
                have hcz99_0 : w72.cell? ⟨g198, 0, none⟩ = some (.int .i64 x199000_26) := (bkC_ BK198.out 0).trans rfl
                have hcz99_1 : w72.cell? ⟨g198, 1, none⟩ = some (.bool x199001_26) := (bkC_ BK198.out 1).trans rfl
                have hcz99_2 : w72.cell? ⟨g198, 2, none⟩ = some (.bool x199002_26) := (bkC_ BK198.out 2).trans rfl
                have hcz99_3 : w72.cell? ⟨g198, 3, none⟩ = some (.bool x199003_26) := (bkC_ BK198.out 3).trans rfl
                have hcz99_4 : w72.cell? ⟨g198, 4, none⟩ = some (.int .i64 x199004_26) := (bkC_ BK198.out 4).trans rfl
                have hcz99_5 : w72.cell? ⟨g198, 5, none⟩ = some (.int .i64 x199005_26) := (bkC_ BK198.out 5).trans rfl
                have hcz99_6 : w72.cell? ⟨g198, 6, none⟩ = some (.int .u32 x199006_26) := (bkC_ BK198.out 6).trans rfl
                have hcz99_7 : w72.cell? ⟨g198, 7, none⟩ = some (.int .u32 x199007_26) := (bkC_ BK198.out 7).trans rfl
                have hcz99_8 : w72.cell? ⟨g198, 8, none⟩ = some (.slice Ao69 x199008_26.length co69) := (bkC_ BK198.out 8).trans rfl
                have hfz99_0 := bkF_ BK198.out 0
                have hfz99_1 := bkF_ BK198.out 1
                have hfz99_2 := bkF_ BK198.out 2
                have hfz99_3 := bkF_ BK198.out 3
                have hfz99_4 := bkF_ BK198.out 4
                have hfz99_5 := bkF_ BK198.out 5
                have hfz99_6 := bkF_ BK198.out 6
                have hfz99_7 := bkF_ BK198.out 7
                have hfz99_8 := bkF_ BK198.out 8
                go_wp2_with (first | ((with_reducible refine gate_callee (f := 8) rfl ?_); refine goesL_ (some 48) rfl rfl Try.func8 (by kernel_rfl) rfl #[.agg #[.int .i64 x199000_26, .bool x199001_26, .bool x199002_26, .bool x199003_26, .int .i64 x199004_26, .int .i64 x199005_26, .int .u32 x199006_26, .int .u32 x199007_26, .slice Ao69 x199008_26.length co69]] rfl (by (try simp only [List.map_toArray, List.map_cons, List.map_nil]); first | done | rfl | (simp only [List.length_drop, List.length_take]; rfl)) ?_; (with_reducible refine (signal_Check.calls kj26 x199000_26 x199001_26 x199002_26 x199003_26 x199004_26 x199005_26 x199006_26 x199007_26 _ _ x199008_26 t255 _ ?side1 ?side2 A87.out).mono ?_); (case side1 => refine (Kd.R_reads' (e := 4) (base := w.heap.size) (ok := fun k_ => (True ∧ some k_ ≠ (.slice Ao80 t243.length co80 : Value).ownBlock)) (n := x199008_26.length) (c := co69) ?_).2.2; exact (by (with_reducible repeat (first | apply Kd.R_alloc | apply Kd.R_drewN | apply Kd.R_drew)); exact (Kd.R_mono (Kd.R_mono (RF6_ (g := g254) (RF9_ (g := g253) (Kd.R_types (Kd.R_types HO_199008.out BK253.out (by decide)) BK254.out (by decide)) (fun _ hk => hk.1.2) _ _ _ _ _ _ _ _ _) (fun _ hk => hk.2) _ _ _ _ _ _) (fun _ h_ => h_.1)) (fun _ h_ => h_.1)))); (case side2 => exact (Kd.R_reads' HO_199008.out).2.1); rintro e w100 ⟨rfl, hb⟩; refine ⟨_, rfl, ?_⟩; have n0_ := Amk_ (Kd.R_below (by (with_reducible repeat (first | apply Kd.R_alloc | apply Kd.R_drewN | apply Kd.R_drew)); exact (Kd.R_mono (Kd.R_mono (RF6_ (g := g254) (RF9_ (g := g253) (Kd.R_types (Kd.R_types HO_199008.out BK253.out (by decide)) BK254.out (by decide)) (fun _ hk => hk.1.2) _ _ _ _ _ _ _ _ _) (fun _ hk => hk.2) _ _ _ _ _ _) (fun _ h_ => h_.1)) (fun _ h_ => h_.1))) hb); have n1_ := Amk_ (Kd.R_below (by (with_reducible repeat (first | apply Kd.R_alloc | apply Kd.R_drewN | apply Kd.R_drew)); exact (Kd.R_mono (Kd.R_mono (RF6_ (g := g254) (RF9_ (g := g253) (Kd.R_types (Kd.R_types HO_234008.out BK253.out (by decide)) BK254.out (by decide)) (fun _ hk => hk.1.2) _ _ _ _ _ _ _ _ _) (fun _ hk => hk.2) _ _ _ _ _ _) (fun _ h_ => h_.1)) (fun _ h_ => h_.1))) hb); have n2_ := Amk_ (Kd.R_below (by (with_reducible repeat (first | apply Kd.R_alloc | apply Kd.R_drewN | apply Kd.R_drew)); exact (Kd.R_mono (Kd.R_mono (RF6_ (g := g254) (RF9_ (g := g253) (Kd.R_types (Kd.R_types HO245.out BK253.out (by decide)) BK254.out (by decide)) (fun _ hk => hk.1.2) _ _ _ _ _ _ _ _ _) (fun _ hk => hk.2) _ _ _ _ _ _) (fun _ h_ => h_.1)) (fun _ h_ => h_.1))) hb); have n3_ := Amk_ (bkB_ (g := g198) (o := .cells #[.int .i64 x199000_26, .bool x199001_26, .bool x199002_26, .bool x199003_26, .int .i64 x199004_26, .int .i64 x199005_26, .int .u32 x199006_26, .int .u32 x199007_26, .slice Ao69 x199008_26.length co69] 27 (0, 0)) (by (with_reducible repeat (first | refine bkN_ ?_ _ | refine bkD_ ?_ | refine bkA_ ?_ _)); (iterate 6 (refine blk_far ?_ NB198_254.out _; (with_reducible repeat (first | refine bkN_ ?_ _ | refine bkD_ ?_ | refine bkA_ ?_ _)))); (iterate 9 (refine blk_far ?_ NB198_253.out _; (with_reducible repeat (first | refine bkN_ ?_ _ | refine bkD_ ?_ | refine bkA_ ?_ _)))); exact BK198.out) hb); have n4_ := Amk_ (bkB_ (g := g199) (o := .cells #[.int .i64 a2_0, .int .i64 a2_1, .int .u32 a2_2, .int .u32 a2_3] 24 (0, 0)) (by (with_reducible repeat (first | refine bkN_ ?_ _ | refine bkD_ ?_ | refine bkA_ ?_ _)); (iterate 6 (refine blk_far ?_ NB199_254.out _; (with_reducible repeat (first | refine bkN_ ?_ _ | refine bkD_ ?_ | refine bkA_ ?_ _)))); (iterate 9 (refine blk_far ?_ NB199_253.out _; (with_reducible repeat (first | refine bkN_ ?_ _ | refine bkD_ ?_ | refine bkA_ ?_ _)))); exact BK199.out) hb); have n5_ := Amk_ (bkB_ (g := g214) (o := .cells #[.int .i64 ((rd_T47 l1 x23_1).f0), .int .i64 ((rd_T47 l1 x23_1).f1), .bool ((rd_T47 l1 x23_1).f2), .int .i64 ((rd_T47 l1 x23_1).f3.f0), .int .i64 ((rd_T47 l1 x23_1).f3.f1), .int .u32 ((rd_T47 l1 x23_1).f3.f2), .int .u32 ((rd_T47 l1 x23_1).f3.f3)] 47 (0, 0)) (by (with_reducible repeat (first | refine bkN_ ?_ _ | refine bkD_ ?_ | refine bkA_ ?_ _)); (iterate 6 (refine blk_far ?_ NB214_254.out _; (with_reducible repeat (first | refine bkN_ ?_ _ | refine bkD_ ?_ | refine bkA_ ?_ _)))); (iterate 9 (refine blk_far ?_ NB214_253.out _; (with_reducible repeat (first | refine bkN_ ?_ _ | refine bkD_ ?_ | refine bkA_ ?_ _)))); exact BK214.out) hb); have n6_ := Amk_ (bkB_ (g := g233) (o := .cells #[.int .i64 t215, .bool t216, .bool t217, .bool t218, .int .i64 t219, .int .i64 t220, .int .u32 t221, .int .u32 t222, .slice Ao43 t223.length co43] 27 (0, 0)) (by (with_reducible repeat (first | refine bkN_ ?_ _ | refine bkD_ ?_ | refine bkA_ ?_ _)); (iterate 6 (refine blk_far ?_ NB233_254.out _; (with_reducible repeat (first | refine bkN_ ?_ _ | refine bkD_ ?_ | refine bkA_ ?_ _)))); (iterate 9 (refine blk_far ?_ NB233_253.out _; (with_reducible repeat (first | refine bkN_ ?_ _ | refine bkD_ ?_ | refine bkA_ ?_ _)))); exact BK233.out) hb); have n7_ := Amk_ (bkB_ (g := g234) (o := .cells #[.bool t226, .bool t227, .int .i64 t228, .int .i64 t229, .int .u32 t230, .int .u32 t231] 33 (0, 0)) (by (with_reducible repeat (first | refine bkN_ ?_ _ | refine bkD_ ?_ | refine bkA_ ?_ _)); (iterate 6 (refine blk_far ?_ NB234_254.out _; (with_reducible repeat (first | refine bkN_ ?_ _ | refine bkD_ ?_ | refine bkA_ ?_ _)))); (iterate 9 (refine blk_far ?_ NB234_253.out _; (with_reducible repeat (first | refine bkN_ ?_ _ | refine bkD_ ?_ | refine bkA_ ?_ _)))); exact BK234.out) hb); have n8_ := Amk_ (bkB_ (g := g253) (o := .cells #[.int .i64 t235, .bool t236, .bool t237, .bool t238, .int .i64 t239, .int .i64 t240, .int .u32 t241, .int .u32 t242, .slice Ao80 t243.length co80] 27 (0, 0)) (by (with_reducible repeat (first | refine bkN_ ?_ _ | refine bkD_ ?_ | refine bkA_ ?_ _)); (iterate 6 (refine blk_far ?_ NB253_254.out _; (with_reducible repeat (first | refine bkN_ ?_ _ | refine bkD_ ?_ | refine bkA_ ?_ _)))); apply PT9_; (with_reducible repeat (first | refine bkN_ ?_ _ | refine bkD_ ?_ | refine bkA_ ?_ _)); exact BK253.out) hb); have n9_ := Amk_ (bkB_ (g := g254) (o := .cells #[.bool t246, .bool t247, .int .i64 t248, .int .i64 t249, .int .u32 t250, .int .u32 t251] 33 (0, 0)) (by (with_reducible repeat (first | refine bkN_ ?_ _ | refine bkD_ ?_ | refine bkA_ ?_ _)); apply PT6_; (with_reducible repeat (first | refine bkN_ ?_ _ | refine bkD_ ?_ | refine bkA_ ?_ _)); (iterate 9 (refine blk_far ?_ NB254_253.out _; (with_reducible repeat (first | refine bkN_ ?_ _ | refine bkD_ ?_ | refine bkA_ ?_ _)))); exact BK254.out) hb); have n10_ := Amk_ (blP_ (by repeat (first | (with_reducible first | exact HB.out | apply blA_ | apply pbN_ | apply blD_ | refine blS_ ?_ GE198.out | refine blS_ ?_ GE199.out | refine blS_ ?_ GE214.out | refine blS_ ?_ GE233.out | refine blS_ ?_ GE234.out | refine blS_ ?_ GE253.out | refine blS_ ?_ GE254.out) | exact HB.out)) hb); clear HO_199008; clear HO_234008; clear HO245; clear BK198; clear BK199; clear BK214; clear BK233; clear BK234; clear BK253; clear BK254; clear HB; have HO_199008 := n0_; have HO_234008 := n1_; have HO245 := n2_; have BK198 := n3_; have BK199 := n4_; have BK214 := n5_; have BK233 := n6_; have BK234 := n7_; have BK253 := n8_; have BK254 := n9_; have HB := n10_; clear n0_ n1_ n2_ n3_ n4_ n5_ n6_ n7_ n8_ n9_ n10_; (try clear hb); (try clear hb2); (try clear hk); (try clear hi); have hnb101 := NB253_199.out; have hnc101 := NB199_253.out; have hnb102 := NB253_214.out; have hnc102 := NB214_253.out; have hnb103 := NB253_233.out; have hnc103 := NB233_253.out; have hnb104 := NB253_234.out; have hnc104 := NB234_253.out; have hnb105 := NB253_254.out; have hnc105 := NB254_253.out; have hcz106_0 : w100.cell? ⟨g253, 0, none⟩ = some (.int .i64 t235) := (bkC_ BK253.out 0).trans rfl; have hcz106_1 : w100.cell? ⟨g253, 1, none⟩ = some (.bool t236) := (bkC_ BK253.out 1).trans rfl; have hcz106_2 : w100.cell? ⟨g253, 2, none⟩ = some (.bool t237) := (bkC_ BK253.out 2).trans rfl; have hcz106_3 : w100.cell? ⟨g253, 3, none⟩ = some (.bool t238) := (bkC_ BK253.out 3).trans rfl; have hcz106_4 : w100.cell? ⟨g253, 4, none⟩ = some (.int .i64 t239) := (bkC_ BK253.out 4).trans rfl; have hcz106_5 : w100.cell? ⟨g253, 5, none⟩ = some (.int .i64 t240) := (bkC_ BK253.out 5).trans rfl; have hcz106_6 : w100.cell? ⟨g253, 6, none⟩ = some (.int .u32 t241) := (bkC_ BK253.out 6).trans rfl; have hcz106_7 : w100.cell? ⟨g253, 7, none⟩ = some (.int .u32 t242) := (bkC_ BK253.out 7).trans rfl; have hcz106_8 : w100.cell? ⟨g253, 8, none⟩ = some (.slice Ao80 t243.length co80) := (bkC_ BK253.out 8).trans rfl; have hfz106_0 := bkF_ BK253.out 0; have hfz106_1 := bkF_ BK253.out 1; have hfz106_2 := bkF_ BK253.out 2; have hfz106_3 := bkF_ BK253.out 3; have hfz106_4 := bkF_ BK253.out 4; have hfz106_5 := bkF_ BK253.out 5; have hfz106_6 := bkF_ BK253.out 6; have hfz106_7 := bkF_ BK253.out 7; have hfz106_8 := bkF_ BK253.out 8) | (go_at_call 8; (with_reducible refine (signal_Check.calls kj26 t235 t236 t237 t238 t239 t240 t241 t242 _ _ t243 t256 _ ?side1 ?side2 A90.out).mono ?_); (case side1 => repeat (first | exact (Kd.R_reads' HO245.out).2.2 | (with_reducible refine Kd.C_alloc ?_ _) | (with_reducible refine Kd.C_drewN ?_ _) | (with_reducible refine Kd.C_drew ?_))); (case side2 => exact (Kd.R_reads' HO245.out).2.1); rintro e w107 ⟨rfl, hb⟩; have n0_ := Amk_ (Kd.R_below (by (with_reducible repeat (first | apply Kd.R_alloc | apply Kd.R_drewN | apply Kd.R_drew)); exact HO_199008.out) hb); have n1_ := Amk_ (Kd.R_below (by (with_reducible repeat (first | apply Kd.R_alloc | apply Kd.R_drewN | apply Kd.R_drew)); exact HO_234008.out) hb); have n2_ := Amk_ (Kd.R_below (by (with_reducible repeat (first | apply Kd.R_alloc | apply Kd.R_drewN | apply Kd.R_drew)); exact HO245.out) hb); have n3_ := Amk_ (bkB_ (g := g198) (o := .cells #[.int .i64 x199000_26, .bool x199001_26, .bool x199002_26, .bool x199003_26, .int .i64 x199004_26, .int .i64 x199005_26, .int .u32 x199006_26, .int .u32 x199007_26, .slice Ao69 x199008_26.length co69] 27 (0, 0)) (by (with_reducible repeat (first | refine bkN_ ?_ _ | refine bkD_ ?_ | refine bkA_ ?_ _)); exact BK198.out) hb); have n4_ := Amk_ (bkB_ (g := g199) (o := .cells #[.int .i64 a2_0, .int .i64 a2_1, .int .u32 a2_2, .int .u32 a2_3] 24 (0, 0)) (by (with_reducible repeat (first | refine bkN_ ?_ _ | refine bkD_ ?_ | refine bkA_ ?_ _)); exact BK199.out) hb); have n5_ := Amk_ (bkB_ (g := g214) (o := .cells #[.int .i64 ((rd_T47 l1 x23_1).f0), .int .i64 ((rd_T47 l1 x23_1).f1), .bool ((rd_T47 l1 x23_1).f2), .int .i64 ((rd_T47 l1 x23_1).f3.f0), .int .i64 ((rd_T47 l1 x23_1).f3.f1), .int .u32 ((rd_T47 l1 x23_1).f3.f2), .int .u32 ((rd_T47 l1 x23_1).f3.f3)] 47 (0, 0)) (by (with_reducible repeat (first | refine bkN_ ?_ _ | refine bkD_ ?_ | refine bkA_ ?_ _)); exact BK214.out) hb); have n6_ := Amk_ (bkB_ (g := g233) (o := .cells #[.int .i64 t215, .bool t216, .bool t217, .bool t218, .int .i64 t219, .int .i64 t220, .int .u32 t221, .int .u32 t222, .slice Ao43 t223.length co43] 27 (0, 0)) (by (with_reducible repeat (first | refine bkN_ ?_ _ | refine bkD_ ?_ | refine bkA_ ?_ _)); exact BK233.out) hb); have n7_ := Amk_ (bkB_ (g := g234) (o := .cells #[.bool t226, .bool t227, .int .i64 t228, .int .i64 t229, .int .u32 t230, .int .u32 t231] 33 (0, 0)) (by (with_reducible repeat (first | refine bkN_ ?_ _ | refine bkD_ ?_ | refine bkA_ ?_ _)); exact BK234.out) hb); have n8_ := Amk_ (bkB_ (g := g253) (o := .cells #[.int .i64 t235, .bool t236, .bool t237, .bool t238, .int .i64 t239, .int .i64 t240, .int .u32 t241, .int .u32 t242, .slice Ao80 t243.length co80] 27 (0, 0)) (by (with_reducible repeat (first | refine bkN_ ?_ _ | refine bkD_ ?_ | refine bkA_ ?_ _)); exact BK253.out) hb); have n9_ := Amk_ (bkB_ (g := g254) (o := .cells #[.bool t246, .bool t247, .int .i64 t248, .int .i64 t249, .int .u32 t250, .int .u32 t251] 33 (0, 0)) (by (with_reducible repeat (first | refine bkN_ ?_ _ | refine bkD_ ?_ | refine bkA_ ?_ _)); exact BK254.out) hb); have n10_ := Amk_ (blP_ (by repeat (first | (with_reducible first | exact HB.out | apply blA_ | apply pbN_ | apply blD_ | refine blS_ ?_ GE198.out | refine blS_ ?_ GE199.out | refine blS_ ?_ GE214.out | refine blS_ ?_ GE233.out | refine blS_ ?_ GE234.out | refine blS_ ?_ GE253.out | refine blS_ ?_ GE254.out) | exact HB.out)) hb); clear HO_199008; clear HO_234008; clear HO245; clear BK198; clear BK199; clear BK214; clear BK233; clear BK234; clear BK253; clear BK254; clear HB; have HO_199008 := n0_; have HO_234008 := n1_; have HO245 := n2_; have BK198 := n3_; have BK199 := n4_; have BK214 := n5_; have BK233 := n6_; have BK234 := n7_; have BK253 := n8_; have BK254 := n9_; have HB := n10_; clear n0_ n1_ n2_ n3_ n4_ n5_ n6_ n7_ n8_ n9_ n10_; (try clear hb); (try clear hb2); (try clear hk); (try clear hi); have hnb108 := NB254_199.out; have hnc108 := NB199_254.out; have hnb109 := NB254_214.out; have hnc109 := NB214_254.out; have hnb110 := NB254_233.out; have hnc110 := NB233_254.out; have hnb111 := NB254_234.out; have hnc111 := NB234_254.out; have hcz112_0 : w107.cell? ⟨g254, 0, none⟩ = some (.bool t246) := (bkC_ BK254.out 0).trans rfl; have hcz112_1 : w107.cell? ⟨g254, 1, none⟩ = some (.bool t247) := (bkC_ BK254.out 1).trans rfl; have hcz112_2 : w107.cell? ⟨g254, 2, none⟩ = some (.int .i64 t248) := (bkC_ BK254.out 2).trans rfl; have hcz112_3 : w107.cell? ⟨g254, 3, none⟩ = some (.int .i64 t249) := (bkC_ BK254.out 3).trans rfl; have hcz112_4 : w107.cell? ⟨g254, 4, none⟩ = some (.int .u32 t250) := (bkC_ BK254.out 4).trans rfl; have hcz112_5 : w107.cell? ⟨g254, 5, none⟩ = some (.int .u32 t251) := (bkC_ BK254.out 5).trans rfl; have hfz112_0 := bkF_ BK254.out 0; have hfz112_1 := bkF_ BK254.out 1; have hfz112_2 := bkF_ BK254.out 2; have hfz112_3 := bkF_ BK254.out 3; have hfz112_4 := bkF_ BK254.out 4; have hfz112_5 := bkF_ BK254.out 5))
                go_meet
                case rel => exact ⟨_, (true), (by first | rfl | (simp; done) | (simp [*]; done)), H', ⟨by have := HK1.out; have := HJ26.out; first | omega | exact Nat.le_refl _⟩, ⟨by (with_reducible repeat (first | apply Kd.R_alloc | apply Kd.R_drewN | apply Kd.R_drew)); exact HO_199008.out⟩, ⟨by (with_reducible repeat (first | apply Kd.R_alloc | apply Kd.R_drewN | apply Kd.R_drew)); exact HO_234008.out⟩, ⟨by (with_reducible repeat (first | apply Kd.R_alloc | apply Kd.R_drewN | apply Kd.R_drew)); exact Kd.R_mono HO245.out (fun _ hk => ⟨hk.1.2, hk.2⟩)⟩, ⟨by (with_reducible repeat (first | refine bkN_ ?_ _ | refine bkD_ ?_ | refine bkA_ ?_ _)); exact BK198.out⟩, ⟨by (with_reducible repeat (first | refine bkN_ ?_ _ | refine bkD_ ?_ | refine bkA_ ?_ _)); exact BK199.out⟩, ⟨by (with_reducible repeat (first | refine bkN_ ?_ _ | refine bkD_ ?_ | refine bkA_ ?_ _)); exact BK214.out⟩, ⟨by (with_reducible repeat (first | refine bkN_ ?_ _ | refine bkD_ ?_ | refine bkA_ ?_ _)); exact BK233.out⟩, ⟨by (with_reducible repeat (first | refine bkN_ ?_ _ | refine bkD_ ?_ | refine bkA_ ?_ _)); exact BK234.out⟩, ⟨by (with_reducible repeat (first | refine bkN_ ?_ _ | refine bkD_ ?_ | refine bkA_ ?_ _)); exact BK253.out⟩, ⟨by (with_reducible repeat (first | refine bkN_ ?_ _ | refine bkD_ ?_ | refine bkA_ ?_ _)); exact BK254.out⟩, ⟨by repeat (first | (with_reducible first | exact HB.out | apply blA_ | apply pbN_ | apply blD_ | refine blS_ ?_ GE198.out | refine blS_ ?_ GE199.out | refine blS_ ?_ GE214.out | refine blS_ ?_ GE233.out | refine blS_ ?_ GE234.out | refine blS_ ?_ GE253.out | refine blS_ ?_ GE254.out) | exact HB.out)⟩⟩
               ·rw [if_neg c92] at H
                have c92b0 : (t246 == t247) = false := by simpa using c92
                (try (have c92b1 : decide (t246 = t247) = false := by simpa using c92))
                (try (have c92b2 : (t246 == t247) = false := by simpa using c92))
                (try (have c92b3 : ¬ (t246 = t247) := by simpa using c92))
                clear c92
                have H' := Amk_ H
                clear H
                have hnb113 := NB198_199.out
                have hnc113 := NB199_198.out
                have hnb114 := NB198_214.out
                have hnc114 := NB214_198.out
                have hnb115 := NB198_233.out
                have hnc115 := NB233_198.out
                have hnb116 := NB198_234.out
                have hnc116 := NB234_198.out
                have hnb117 := NB198_253.out
                have hnc117 := NB253_198.out
                have hnb118 := NB198_254.out
                have hnc118 := NB254_198.out
                have hcz119_0 : w72.cell? ⟨g198, 0, none⟩ = some (.int .i64 x199000_26) := (bkC_ BK198.out 0).trans rfl
                have hcz119_1 : w72.cell? ⟨g198, 1, none⟩ = some (.bool x199001_26) := (bkC_ BK198.out 1).trans rfl
                have hcz119_2 : w72.cell? ⟨g198, 2, none⟩ = some (.bool x199002_26) := (bkC_ BK198.out 2).trans rfl
                have hcz119_3 : w72.cell? ⟨g198, 3, none⟩ = some (.bool x199003_26) := (bkC_ BK198.out 3).trans rfl
                have hcz119_4 : w72.cell? ⟨g198, 4, none⟩ = some (.int .i64 x199004_26) := (bkC_ BK198.out 4).trans rfl
                have hcz119_5 : w72.cell? ⟨g198, 5, none⟩ = some (.int .i64 x199005_26) := (bkC_ BK198.out 5).trans rfl
                have hcz119_6 : w72.cell? ⟨g198, 6, none⟩ = some (.int .u32 x199006_26) := (bkC_ BK198.out 6).trans rfl
                have hcz119_7 : w72.cell? ⟨g198, 7, none⟩ = some (.int .u32 x199007_26) := (bkC_ BK198.out 7).trans rfl
                have hcz119_8 : w72.cell? ⟨g198, 8, none⟩ = some (.slice Ao69 x199008_26.length co69) := (bkC_ BK198.out 8).trans rfl
                have hfz119_0 := bkF_ BK198.out 0
                have hfz119_1 := bkF_ BK198.out 1
                have hfz119_2 := bkF_ BK198.out 2
                have hfz119_3 := bkF_ BK198.out 3
                have hfz119_4 := bkF_ BK198.out 4
                have hfz119_5 := bkF_ BK198.out 5
                have hfz119_6 := bkF_ BK198.out 6
                have hfz119_7 := bkF_ BK198.out 7
                have hfz119_8 := bkF_ BK198.out 8
                go_wp2_with (first | ((with_reducible refine gate_callee (f := 8) rfl ?_); refine goesL_ (some 48) rfl rfl Try.func8 (by kernel_rfl) rfl #[.agg #[.int .i64 x199000_26, .bool x199001_26, .bool x199002_26, .bool x199003_26, .int .i64 x199004_26, .int .i64 x199005_26, .int .u32 x199006_26, .int .u32 x199007_26, .slice Ao69 x199008_26.length co69]] rfl (by (try simp only [List.map_toArray, List.map_cons, List.map_nil]); first | done | rfl | (simp only [List.length_drop, List.length_take]; rfl)) ?_; (with_reducible refine (signal_Check.calls kj26 x199000_26 x199001_26 x199002_26 x199003_26 x199004_26 x199005_26 x199006_26 x199007_26 _ _ x199008_26 t255 _ ?side1 ?side2 A87.out).mono ?_); (case side1 => refine (Kd.R_reads' (e := 4) (base := w.heap.size) (ok := fun k_ => (True ∧ some k_ ≠ (.slice Ao80 t243.length co80 : Value).ownBlock)) (n := x199008_26.length) (c := co69) ?_).2.2; exact (by (with_reducible repeat (first | apply Kd.R_alloc | apply Kd.R_drewN | apply Kd.R_drew)); exact (Kd.R_mono (Kd.R_mono (RF6_ (g := g254) (RF9_ (g := g253) (Kd.R_types (Kd.R_types HO_199008.out BK253.out (by decide)) BK254.out (by decide)) (fun _ hk => hk.1.2) _ _ _ _ _ _ _ _ _) (fun _ hk => hk.2) _ _ _ _ _ _) (fun _ h_ => h_.1)) (fun _ h_ => h_.1)))); (case side2 => exact (Kd.R_reads' HO_199008.out).2.1); rintro e w120 ⟨rfl, hb⟩; refine ⟨_, rfl, ?_⟩; have n0_ := Amk_ (Kd.R_below (by (with_reducible repeat (first | apply Kd.R_alloc | apply Kd.R_drewN | apply Kd.R_drew)); exact (Kd.R_mono (Kd.R_mono (RF6_ (g := g254) (RF9_ (g := g253) (Kd.R_types (Kd.R_types HO_199008.out BK253.out (by decide)) BK254.out (by decide)) (fun _ hk => hk.1.2) _ _ _ _ _ _ _ _ _) (fun _ hk => hk.2) _ _ _ _ _ _) (fun _ h_ => h_.1)) (fun _ h_ => h_.1))) hb); have n1_ := Amk_ (Kd.R_below (by (with_reducible repeat (first | apply Kd.R_alloc | apply Kd.R_drewN | apply Kd.R_drew)); exact (Kd.R_mono (Kd.R_mono (RF6_ (g := g254) (RF9_ (g := g253) (Kd.R_types (Kd.R_types HO_234008.out BK253.out (by decide)) BK254.out (by decide)) (fun _ hk => hk.1.2) _ _ _ _ _ _ _ _ _) (fun _ hk => hk.2) _ _ _ _ _ _) (fun _ h_ => h_.1)) (fun _ h_ => h_.1))) hb); have n2_ := Amk_ (Kd.R_below (by (with_reducible repeat (first | apply Kd.R_alloc | apply Kd.R_drewN | apply Kd.R_drew)); exact (Kd.R_mono (Kd.R_mono (RF6_ (g := g254) (RF9_ (g := g253) (Kd.R_types (Kd.R_types HO245.out BK253.out (by decide)) BK254.out (by decide)) (fun _ hk => hk.1.2) _ _ _ _ _ _ _ _ _) (fun _ hk => hk.2) _ _ _ _ _ _) (fun _ h_ => h_.1)) (fun _ h_ => h_.1))) hb); have n3_ := Amk_ (bkB_ (g := g198) (o := .cells #[.int .i64 x199000_26, .bool x199001_26, .bool x199002_26, .bool x199003_26, .int .i64 x199004_26, .int .i64 x199005_26, .int .u32 x199006_26, .int .u32 x199007_26, .slice Ao69 x199008_26.length co69] 27 (0, 0)) (by (with_reducible repeat (first | refine bkN_ ?_ _ | refine bkD_ ?_ | refine bkA_ ?_ _)); (iterate 6 (refine blk_far ?_ NB198_254.out _; (with_reducible repeat (first | refine bkN_ ?_ _ | refine bkD_ ?_ | refine bkA_ ?_ _)))); (iterate 9 (refine blk_far ?_ NB198_253.out _; (with_reducible repeat (first | refine bkN_ ?_ _ | refine bkD_ ?_ | refine bkA_ ?_ _)))); exact BK198.out) hb); have n4_ := Amk_ (bkB_ (g := g199) (o := .cells #[.int .i64 a2_0, .int .i64 a2_1, .int .u32 a2_2, .int .u32 a2_3] 24 (0, 0)) (by (with_reducible repeat (first | refine bkN_ ?_ _ | refine bkD_ ?_ | refine bkA_ ?_ _)); (iterate 6 (refine blk_far ?_ NB199_254.out _; (with_reducible repeat (first | refine bkN_ ?_ _ | refine bkD_ ?_ | refine bkA_ ?_ _)))); (iterate 9 (refine blk_far ?_ NB199_253.out _; (with_reducible repeat (first | refine bkN_ ?_ _ | refine bkD_ ?_ | refine bkA_ ?_ _)))); exact BK199.out) hb); have n5_ := Amk_ (bkB_ (g := g214) (o := .cells #[.int .i64 ((rd_T47 l1 x23_1).f0), .int .i64 ((rd_T47 l1 x23_1).f1), .bool ((rd_T47 l1 x23_1).f2), .int .i64 ((rd_T47 l1 x23_1).f3.f0), .int .i64 ((rd_T47 l1 x23_1).f3.f1), .int .u32 ((rd_T47 l1 x23_1).f3.f2), .int .u32 ((rd_T47 l1 x23_1).f3.f3)] 47 (0, 0)) (by (with_reducible repeat (first | refine bkN_ ?_ _ | refine bkD_ ?_ | refine bkA_ ?_ _)); (iterate 6 (refine blk_far ?_ NB214_254.out _; (with_reducible repeat (first | refine bkN_ ?_ _ | refine bkD_ ?_ | refine bkA_ ?_ _)))); (iterate 9 (refine blk_far ?_ NB214_253.out _; (with_reducible repeat (first | refine bkN_ ?_ _ | refine bkD_ ?_ | refine bkA_ ?_ _)))); exact BK214.out) hb); have n6_ := Amk_ (bkB_ (g := g233) (o := .cells #[.int .i64 t215, .bool t216, .bool t217, .bool t218, .int .i64 t219, .int .i64 t220, .int .u32 t221, .int .u32 t222, .slice Ao43 t223.length co43] 27 (0, 0)) (by (with_reducible repeat (first | refine bkN_ ?_ _ | refine bkD_ ?_ | refine bkA_ ?_ _)); (iterate 6 (refine blk_far ?_ NB233_254.out _; (with_reducible repeat (first | refine bkN_ ?_ _ | refine bkD_ ?_ | refine bkA_ ?_ _)))); (iterate 9 (refine blk_far ?_ NB233_253.out _; (with_reducible repeat (first | refine bkN_ ?_ _ | refine bkD_ ?_ | refine bkA_ ?_ _)))); exact BK233.out) hb); have n7_ := Amk_ (bkB_ (g := g234) (o := .cells #[.bool t226, .bool t227, .int .i64 t228, .int .i64 t229, .int .u32 t230, .int .u32 t231] 33 (0, 0)) (by (with_reducible repeat (first | refine bkN_ ?_ _ | refine bkD_ ?_ | refine bkA_ ?_ _)); (iterate 6 (refine blk_far ?_ NB234_254.out _; (with_reducible repeat (first | refine bkN_ ?_ _ | refine bkD_ ?_ | refine bkA_ ?_ _)))); (iterate 9 (refine blk_far ?_ NB234_253.out _; (with_reducible repeat (first | refine bkN_ ?_ _ | refine bkD_ ?_ | refine bkA_ ?_ _)))); exact BK234.out) hb); have n8_ := Amk_ (bkB_ (g := g253) (o := .cells #[.int .i64 t235, .bool t236, .bool t237, .bool t238, .int .i64 t239, .int .i64 t240, .int .u32 t241, .int .u32 t242, .slice Ao80 t243.length co80] 27 (0, 0)) (by (with_reducible repeat (first | refine bkN_ ?_ _ | refine bkD_ ?_ | refine bkA_ ?_ _)); (iterate 6 (refine blk_far ?_ NB253_254.out _; (with_reducible repeat (first | refine bkN_ ?_ _ | refine bkD_ ?_ | refine bkA_ ?_ _)))); apply PT9_; (with_reducible repeat (first | refine bkN_ ?_ _ | refine bkD_ ?_ | refine bkA_ ?_ _)); exact BK253.out) hb); have n9_ := Amk_ (bkB_ (g := g254) (o := .cells #[.bool t246, .bool t247, .int .i64 t248, .int .i64 t249, .int .u32 t250, .int .u32 t251] 33 (0, 0)) (by (with_reducible repeat (first | refine bkN_ ?_ _ | refine bkD_ ?_ | refine bkA_ ?_ _)); apply PT6_; (with_reducible repeat (first | refine bkN_ ?_ _ | refine bkD_ ?_ | refine bkA_ ?_ _)); (iterate 9 (refine blk_far ?_ NB254_253.out _; (with_reducible repeat (first | refine bkN_ ?_ _ | refine bkD_ ?_ | refine bkA_ ?_ _)))); exact BK254.out) hb); have n10_ := Amk_ (blP_ (by repeat (first | (with_reducible first | exact HB.out | apply blA_ | apply pbN_ | apply blD_ | refine blS_ ?_ GE198.out | refine blS_ ?_ GE199.out | refine blS_ ?_ GE214.out | refine blS_ ?_ GE233.out | refine blS_ ?_ GE234.out | refine blS_ ?_ GE253.out | refine blS_ ?_ GE254.out) | exact HB.out)) hb); clear HO_199008; clear HO_234008; clear HO245; clear BK198; clear BK199; clear BK214; clear BK233; clear BK234; clear BK253; clear BK254; clear HB; have HO_199008 := n0_; have HO_234008 := n1_; have HO245 := n2_; have BK198 := n3_; have BK199 := n4_; have BK214 := n5_; have BK233 := n6_; have BK234 := n7_; have BK253 := n8_; have BK254 := n9_; have HB := n10_; clear n0_ n1_ n2_ n3_ n4_ n5_ n6_ n7_ n8_ n9_ n10_; (try clear hb); (try clear hb2); (try clear hk); (try clear hi); have hnb121 := NB253_199.out; have hnc121 := NB199_253.out; have hnb122 := NB253_214.out; have hnc122 := NB214_253.out; have hnb123 := NB253_233.out; have hnc123 := NB233_253.out; have hnb124 := NB253_234.out; have hnc124 := NB234_253.out; have hnb125 := NB253_254.out; have hnc125 := NB254_253.out; have hcz126_0 : w120.cell? ⟨g253, 0, none⟩ = some (.int .i64 t235) := (bkC_ BK253.out 0).trans rfl; have hcz126_1 : w120.cell? ⟨g253, 1, none⟩ = some (.bool t236) := (bkC_ BK253.out 1).trans rfl; have hcz126_2 : w120.cell? ⟨g253, 2, none⟩ = some (.bool t237) := (bkC_ BK253.out 2).trans rfl; have hcz126_3 : w120.cell? ⟨g253, 3, none⟩ = some (.bool t238) := (bkC_ BK253.out 3).trans rfl; have hcz126_4 : w120.cell? ⟨g253, 4, none⟩ = some (.int .i64 t239) := (bkC_ BK253.out 4).trans rfl; have hcz126_5 : w120.cell? ⟨g253, 5, none⟩ = some (.int .i64 t240) := (bkC_ BK253.out 5).trans rfl; have hcz126_6 : w120.cell? ⟨g253, 6, none⟩ = some (.int .u32 t241) := (bkC_ BK253.out 6).trans rfl; have hcz126_7 : w120.cell? ⟨g253, 7, none⟩ = some (.int .u32 t242) := (bkC_ BK253.out 7).trans rfl; have hcz126_8 : w120.cell? ⟨g253, 8, none⟩ = some (.slice Ao80 t243.length co80) := (bkC_ BK253.out 8).trans rfl; have hfz126_0 := bkF_ BK253.out 0; have hfz126_1 := bkF_ BK253.out 1; have hfz126_2 := bkF_ BK253.out 2; have hfz126_3 := bkF_ BK253.out 3; have hfz126_4 := bkF_ BK253.out 4; have hfz126_5 := bkF_ BK253.out 5; have hfz126_6 := bkF_ BK253.out 6; have hfz126_7 := bkF_ BK253.out 7; have hfz126_8 := bkF_ BK253.out 8) | (go_at_call 8; (with_reducible refine (signal_Check.calls kj26 t235 t236 t237 t238 t239 t240 t241 t242 _ _ t243 t256 _ ?side1 ?side2 A90.out).mono ?_); (case side1 => repeat (first | exact (Kd.R_reads' HO245.out).2.2 | (with_reducible refine Kd.C_alloc ?_ _) | (with_reducible refine Kd.C_drewN ?_ _) | (with_reducible refine Kd.C_drew ?_))); (case side2 => exact (Kd.R_reads' HO245.out).2.1); rintro e w127 ⟨rfl, hb⟩; have n0_ := Amk_ (Kd.R_below (by (with_reducible repeat (first | apply Kd.R_alloc | apply Kd.R_drewN | apply Kd.R_drew)); exact HO_199008.out) hb); have n1_ := Amk_ (Kd.R_below (by (with_reducible repeat (first | apply Kd.R_alloc | apply Kd.R_drewN | apply Kd.R_drew)); exact HO_234008.out) hb); have n2_ := Amk_ (Kd.R_below (by (with_reducible repeat (first | apply Kd.R_alloc | apply Kd.R_drewN | apply Kd.R_drew)); exact HO245.out) hb); have n3_ := Amk_ (bkB_ (g := g198) (o := .cells #[.int .i64 x199000_26, .bool x199001_26, .bool x199002_26, .bool x199003_26, .int .i64 x199004_26, .int .i64 x199005_26, .int .u32 x199006_26, .int .u32 x199007_26, .slice Ao69 x199008_26.length co69] 27 (0, 0)) (by (with_reducible repeat (first | refine bkN_ ?_ _ | refine bkD_ ?_ | refine bkA_ ?_ _)); exact BK198.out) hb); have n4_ := Amk_ (bkB_ (g := g199) (o := .cells #[.int .i64 a2_0, .int .i64 a2_1, .int .u32 a2_2, .int .u32 a2_3] 24 (0, 0)) (by (with_reducible repeat (first | refine bkN_ ?_ _ | refine bkD_ ?_ | refine bkA_ ?_ _)); exact BK199.out) hb); have n5_ := Amk_ (bkB_ (g := g214) (o := .cells #[.int .i64 ((rd_T47 l1 x23_1).f0), .int .i64 ((rd_T47 l1 x23_1).f1), .bool ((rd_T47 l1 x23_1).f2), .int .i64 ((rd_T47 l1 x23_1).f3.f0), .int .i64 ((rd_T47 l1 x23_1).f3.f1), .int .u32 ((rd_T47 l1 x23_1).f3.f2), .int .u32 ((rd_T47 l1 x23_1).f3.f3)] 47 (0, 0)) (by (with_reducible repeat (first | refine bkN_ ?_ _ | refine bkD_ ?_ | refine bkA_ ?_ _)); exact BK214.out) hb); have n6_ := Amk_ (bkB_ (g := g233) (o := .cells #[.int .i64 t215, .bool t216, .bool t217, .bool t218, .int .i64 t219, .int .i64 t220, .int .u32 t221, .int .u32 t222, .slice Ao43 t223.length co43] 27 (0, 0)) (by (with_reducible repeat (first | refine bkN_ ?_ _ | refine bkD_ ?_ | refine bkA_ ?_ _)); exact BK233.out) hb); have n7_ := Amk_ (bkB_ (g := g234) (o := .cells #[.bool t226, .bool t227, .int .i64 t228, .int .i64 t229, .int .u32 t230, .int .u32 t231] 33 (0, 0)) (by (with_reducible repeat (first | refine bkN_ ?_ _ | refine bkD_ ?_ | refine bkA_ ?_ _)); exact BK234.out) hb); have n8_ := Amk_ (bkB_ (g := g253) (o := .cells #[.int .i64 t235, .bool t236, .bool t237, .bool t238, .int .i64 t239, .int .i64 t240, .int .u32 t241, .int .u32 t242, .slice Ao80 t243.length co80] 27 (0, 0)) (by (with_reducible repeat (first | refine bkN_ ?_ _ | refine bkD_ ?_ | refine bkA_ ?_ _)); exact BK253.out) hb); have n9_ := Amk_ (bkB_ (g := g254) (o := .cells #[.bool t246, .bool t247, .int .i64 t248, .int .i64 t249, .int .u32 t250, .int .u32 t251] 33 (0, 0)) (by (with_reducible repeat (first | refine bkN_ ?_ _ | refine bkD_ ?_ | refine bkA_ ?_ _)); exact BK254.out) hb); have n10_ := Amk_ (blP_ (by repeat (first | (with_reducible first | exact HB.out | apply blA_ | apply pbN_ | apply blD_ | refine blS_ ?_ GE198.out | refine blS_ ?_ GE199.out | refine blS_ ?_ GE214.out | refine blS_ ?_ GE233.out | refine blS_ ?_ GE234.out | refine blS_ ?_ GE253.out | refine blS_ ?_ GE254.out) | exact HB.out)) hb); clear HO_199008; clear HO_234008; clear HO245; clear BK198; clear BK199; clear BK214; clear BK233; clear BK234; clear BK253; clear BK254; clear HB; have HO_199008 := n0_; have HO_234008 := n1_; have HO245 := n2_; have BK198 := n3_; have BK199 := n4_; have BK214 := n5_; have BK233 := n6_; have BK234 := n7_; have BK253 := n8_; have BK254 := n9_; have HB := n10_; clear n0_ n1_ n2_ n3_ n4_ n5_ n6_ n7_ n8_ n9_ n10_; (try clear hb); (try clear hb2); (try clear hk); (try clear hi); have hnb128 := NB254_199.out; have hnc128 := NB199_254.out; have hnb129 := NB254_214.out; have hnc129 := NB214_254.out; have hnb130 := NB254_233.out; have hnc130 := NB233_254.out; have hnb131 := NB254_234.out; have hnc131 := NB234_254.out; have hcz132_0 : w127.cell? ⟨g254, 0, none⟩ = some (.bool t246) := (bkC_ BK254.out 0).trans rfl; have hcz132_1 : w127.cell? ⟨g254, 1, none⟩ = some (.bool t247) := (bkC_ BK254.out 1).trans rfl; have hcz132_2 : w127.cell? ⟨g254, 2, none⟩ = some (.int .i64 t248) := (bkC_ BK254.out 2).trans rfl; have hcz132_3 : w127.cell? ⟨g254, 3, none⟩ = some (.int .i64 t249) := (bkC_ BK254.out 3).trans rfl; have hcz132_4 : w127.cell? ⟨g254, 4, none⟩ = some (.int .u32 t250) := (bkC_ BK254.out 4).trans rfl; have hcz132_5 : w127.cell? ⟨g254, 5, none⟩ = some (.int .u32 t251) := (bkC_ BK254.out 5).trans rfl; have hfz132_0 := bkF_ BK254.out 0; have hfz132_1 := bkF_ BK254.out 1; have hfz132_2 := bkF_ BK254.out 2; have hfz132_3 := bkF_ BK254.out 3; have hfz132_4 := bkF_ BK254.out 4; have hfz132_5 := bkF_ BK254.out 5; have hnb133 := NB199_214.out; have hnc133 := NB214_199.out; have hnb134 := NB199_233.out; have hnc134 := NB233_199.out; have hnb135 := NB199_234.out; have hnc135 := NB234_199.out; have hcz136_0 : w127.cell? ⟨g199, 0, none⟩ = some (.int .i64 a2_0) := (bkC_ BK199.out 0).trans rfl; have hcz136_1 : w127.cell? ⟨g199, 1, none⟩ = some (.int .i64 a2_1) := (bkC_ BK199.out 1).trans rfl; have hcz136_2 : w127.cell? ⟨g199, 2, none⟩ = some (.int .u32 a2_2) := (bkC_ BK199.out 2).trans rfl; have hcz136_3 : w127.cell? ⟨g199, 3, none⟩ = some (.int .u32 a2_3) := (bkC_ BK199.out 3).trans rfl; have hfz136_0 := bkF_ BK199.out 0; have hfz136_1 := bkF_ BK199.out 1; have hfz136_2 := bkF_ BK199.out 2; have hfz136_3 := bkF_ BK199.out 3))
                go_meet
                case rel => exact ⟨_, ((!(t248 == a2_0) || (!(t249 == a2_1) || (!(t250 == a2_2) || (!(t251 == a2_3)))))), (by first | rfl | (simp; done) | (simp [*]; done)), H', ⟨by have := HK1.out; have := HJ26.out; first | omega | exact Nat.le_refl _⟩, ⟨by (with_reducible repeat (first | apply Kd.R_alloc | apply Kd.R_drewN | apply Kd.R_drew)); exact HO_199008.out⟩, ⟨by (with_reducible repeat (first | apply Kd.R_alloc | apply Kd.R_drewN | apply Kd.R_drew)); exact HO_234008.out⟩, ⟨by (with_reducible repeat (first | apply Kd.R_alloc | apply Kd.R_drewN | apply Kd.R_drew)); exact Kd.R_mono HO245.out (fun _ hk => ⟨hk.1.2, hk.2⟩)⟩, ⟨by (with_reducible repeat (first | refine bkN_ ?_ _ | refine bkD_ ?_ | refine bkA_ ?_ _)); exact BK198.out⟩, ⟨by (with_reducible repeat (first | refine bkN_ ?_ _ | refine bkD_ ?_ | refine bkA_ ?_ _)); exact BK199.out⟩, ⟨by (with_reducible repeat (first | refine bkN_ ?_ _ | refine bkD_ ?_ | refine bkA_ ?_ _)); exact BK214.out⟩, ⟨by (with_reducible repeat (first | refine bkN_ ?_ _ | refine bkD_ ?_ | refine bkA_ ?_ _)); exact BK233.out⟩, ⟨by (with_reducible repeat (first | refine bkN_ ?_ _ | refine bkD_ ?_ | refine bkA_ ?_ _)); exact BK234.out⟩, ⟨by (with_reducible repeat (first | refine bkN_ ?_ _ | refine bkD_ ?_ | refine bkA_ ?_ _)); exact BK253.out⟩, ⟨by (with_reducible repeat (first | refine bkN_ ?_ _ | refine bkD_ ?_ | refine bkA_ ?_ _)); exact BK254.out⟩, ⟨by repeat (first | (with_reducible first | exact HB.out | apply blA_ | apply pbN_ | apply blD_ | refine blS_ ?_ GE198.out | refine blS_ ?_ GE199.out | refine blS_ ?_ GE214.out | refine blS_ ?_ GE233.out | refine blS_ ?_ GE234.out | refine blS_ ?_ GE253.out | refine blS_ ?_ GE254.out) | exact HB.out)⟩⟩
              ·rw [if_neg c91] at H
               have c91b0 : (t256 == 0) = false := beq_eq_false_iff_ne.mpr c91
               have c91b1 : (t256 != 0) = true := bne_iff_ne.mpr c91
               have H' := Amk_ H
               clear H
               have hnb137 := NB198_199.out
               have hnc137 := NB199_198.out
               have hnb138 := NB198_214.out
               have hnc138 := NB214_198.out
               have hnb139 := NB198_233.out
               have hnc139 := NB233_198.out
               have hnb140 := NB198_234.out
               have hnc140 := NB234_198.out
               have hnb141 := NB198_253.out
               have hnc141 := NB253_198.out
               have hnb142 := NB198_254.out
               have hnc142 := NB254_198.out
               have hcz143_0 : w72.cell? ⟨g198, 0, none⟩ = some (.int .i64 x199000_26) := (bkC_ BK198.out 0).trans rfl
               have hcz143_1 : w72.cell? ⟨g198, 1, none⟩ = some (.bool x199001_26) := (bkC_ BK198.out 1).trans rfl
               have hcz143_2 : w72.cell? ⟨g198, 2, none⟩ = some (.bool x199002_26) := (bkC_ BK198.out 2).trans rfl
               have hcz143_3 : w72.cell? ⟨g198, 3, none⟩ = some (.bool x199003_26) := (bkC_ BK198.out 3).trans rfl
               have hcz143_4 : w72.cell? ⟨g198, 4, none⟩ = some (.int .i64 x199004_26) := (bkC_ BK198.out 4).trans rfl
               have hcz143_5 : w72.cell? ⟨g198, 5, none⟩ = some (.int .i64 x199005_26) := (bkC_ BK198.out 5).trans rfl
               have hcz143_6 : w72.cell? ⟨g198, 6, none⟩ = some (.int .u32 x199006_26) := (bkC_ BK198.out 6).trans rfl
               have hcz143_7 : w72.cell? ⟨g198, 7, none⟩ = some (.int .u32 x199007_26) := (bkC_ BK198.out 7).trans rfl
               have hcz143_8 : w72.cell? ⟨g198, 8, none⟩ = some (.slice Ao69 x199008_26.length co69) := (bkC_ BK198.out 8).trans rfl
               have hfz143_0 := bkF_ BK198.out 0
               have hfz143_1 := bkF_ BK198.out 1
               have hfz143_2 := bkF_ BK198.out 2
               have hfz143_3 := bkF_ BK198.out 3
               have hfz143_4 := bkF_ BK198.out 4
               have hfz143_5 := bkF_ BK198.out 5
               have hfz143_6 := bkF_ BK198.out 6
               have hfz143_7 := bkF_ BK198.out 7
               have hfz143_8 := bkF_ BK198.out 8
               go_wp2_with (first | ((with_reducible refine gate_callee (f := 8) rfl ?_); refine goesL_ (some 48) rfl rfl Try.func8 (by kernel_rfl) rfl #[.agg #[.int .i64 x199000_26, .bool x199001_26, .bool x199002_26, .bool x199003_26, .int .i64 x199004_26, .int .i64 x199005_26, .int .u32 x199006_26, .int .u32 x199007_26, .slice Ao69 x199008_26.length co69]] rfl (by (try simp only [List.map_toArray, List.map_cons, List.map_nil]); first | done | rfl | (simp only [List.length_drop, List.length_take]; rfl)) ?_; (with_reducible refine (signal_Check.calls kj26 x199000_26 x199001_26 x199002_26 x199003_26 x199004_26 x199005_26 x199006_26 x199007_26 _ _ x199008_26 t255 _ ?side1 ?side2 A87.out).mono ?_); (case side1 => refine (Kd.R_reads' (e := 4) (base := w.heap.size) (ok := fun k_ => (True ∧ some k_ ≠ (.slice Ao80 t243.length co80 : Value).ownBlock)) (n := x199008_26.length) (c := co69) ?_).2.2; exact (by (with_reducible repeat (first | apply Kd.R_alloc | apply Kd.R_drewN | apply Kd.R_drew)); exact (Kd.R_mono (Kd.R_mono (RF6_ (g := g254) (RF9_ (g := g253) (Kd.R_types (Kd.R_types HO_199008.out BK253.out (by decide)) BK254.out (by decide)) (fun _ hk => hk.1.2) _ _ _ _ _ _ _ _ _) (fun _ hk => hk.2) _ _ _ _ _ _) (fun _ h_ => h_.1)) (fun _ h_ => h_.1)))); (case side2 => exact (Kd.R_reads' HO_199008.out).2.1); rintro e w144 ⟨rfl, hb⟩; refine ⟨_, rfl, ?_⟩; have n0_ := Amk_ (Kd.R_below (by (with_reducible repeat (first | apply Kd.R_alloc | apply Kd.R_drewN | apply Kd.R_drew)); exact (Kd.R_mono (Kd.R_mono (RF6_ (g := g254) (RF9_ (g := g253) (Kd.R_types (Kd.R_types HO_199008.out BK253.out (by decide)) BK254.out (by decide)) (fun _ hk => hk.1.2) _ _ _ _ _ _ _ _ _) (fun _ hk => hk.2) _ _ _ _ _ _) (fun _ h_ => h_.1)) (fun _ h_ => h_.1))) hb); have n1_ := Amk_ (Kd.R_below (by (with_reducible repeat (first | apply Kd.R_alloc | apply Kd.R_drewN | apply Kd.R_drew)); exact (Kd.R_mono (Kd.R_mono (RF6_ (g := g254) (RF9_ (g := g253) (Kd.R_types (Kd.R_types HO_234008.out BK253.out (by decide)) BK254.out (by decide)) (fun _ hk => hk.1.2) _ _ _ _ _ _ _ _ _) (fun _ hk => hk.2) _ _ _ _ _ _) (fun _ h_ => h_.1)) (fun _ h_ => h_.1))) hb); have n2_ := Amk_ (Kd.R_below (by (with_reducible repeat (first | apply Kd.R_alloc | apply Kd.R_drewN | apply Kd.R_drew)); exact (Kd.R_mono (Kd.R_mono (RF6_ (g := g254) (RF9_ (g := g253) (Kd.R_types (Kd.R_types HO245.out BK253.out (by decide)) BK254.out (by decide)) (fun _ hk => hk.1.2) _ _ _ _ _ _ _ _ _) (fun _ hk => hk.2) _ _ _ _ _ _) (fun _ h_ => h_.1)) (fun _ h_ => h_.1))) hb); have n3_ := Amk_ (bkB_ (g := g198) (o := .cells #[.int .i64 x199000_26, .bool x199001_26, .bool x199002_26, .bool x199003_26, .int .i64 x199004_26, .int .i64 x199005_26, .int .u32 x199006_26, .int .u32 x199007_26, .slice Ao69 x199008_26.length co69] 27 (0, 0)) (by (with_reducible repeat (first | refine bkN_ ?_ _ | refine bkD_ ?_ | refine bkA_ ?_ _)); (iterate 6 (refine blk_far ?_ NB198_254.out _; (with_reducible repeat (first | refine bkN_ ?_ _ | refine bkD_ ?_ | refine bkA_ ?_ _)))); (iterate 9 (refine blk_far ?_ NB198_253.out _; (with_reducible repeat (first | refine bkN_ ?_ _ | refine bkD_ ?_ | refine bkA_ ?_ _)))); exact BK198.out) hb); have n4_ := Amk_ (bkB_ (g := g199) (o := .cells #[.int .i64 a2_0, .int .i64 a2_1, .int .u32 a2_2, .int .u32 a2_3] 24 (0, 0)) (by (with_reducible repeat (first | refine bkN_ ?_ _ | refine bkD_ ?_ | refine bkA_ ?_ _)); (iterate 6 (refine blk_far ?_ NB199_254.out _; (with_reducible repeat (first | refine bkN_ ?_ _ | refine bkD_ ?_ | refine bkA_ ?_ _)))); (iterate 9 (refine blk_far ?_ NB199_253.out _; (with_reducible repeat (first | refine bkN_ ?_ _ | refine bkD_ ?_ | refine bkA_ ?_ _)))); exact BK199.out) hb); have n5_ := Amk_ (bkB_ (g := g214) (o := .cells #[.int .i64 ((rd_T47 l1 x23_1).f0), .int .i64 ((rd_T47 l1 x23_1).f1), .bool ((rd_T47 l1 x23_1).f2), .int .i64 ((rd_T47 l1 x23_1).f3.f0), .int .i64 ((rd_T47 l1 x23_1).f3.f1), .int .u32 ((rd_T47 l1 x23_1).f3.f2), .int .u32 ((rd_T47 l1 x23_1).f3.f3)] 47 (0, 0)) (by (with_reducible repeat (first | refine bkN_ ?_ _ | refine bkD_ ?_ | refine bkA_ ?_ _)); (iterate 6 (refine blk_far ?_ NB214_254.out _; (with_reducible repeat (first | refine bkN_ ?_ _ | refine bkD_ ?_ | refine bkA_ ?_ _)))); (iterate 9 (refine blk_far ?_ NB214_253.out _; (with_reducible repeat (first | refine bkN_ ?_ _ | refine bkD_ ?_ | refine bkA_ ?_ _)))); exact BK214.out) hb); have n6_ := Amk_ (bkB_ (g := g233) (o := .cells #[.int .i64 t215, .bool t216, .bool t217, .bool t218, .int .i64 t219, .int .i64 t220, .int .u32 t221, .int .u32 t222, .slice Ao43 t223.length co43] 27 (0, 0)) (by (with_reducible repeat (first | refine bkN_ ?_ _ | refine bkD_ ?_ | refine bkA_ ?_ _)); (iterate 6 (refine blk_far ?_ NB233_254.out _; (with_reducible repeat (first | refine bkN_ ?_ _ | refine bkD_ ?_ | refine bkA_ ?_ _)))); (iterate 9 (refine blk_far ?_ NB233_253.out _; (with_reducible repeat (first | refine bkN_ ?_ _ | refine bkD_ ?_ | refine bkA_ ?_ _)))); exact BK233.out) hb); have n7_ := Amk_ (bkB_ (g := g234) (o := .cells #[.bool t226, .bool t227, .int .i64 t228, .int .i64 t229, .int .u32 t230, .int .u32 t231] 33 (0, 0)) (by (with_reducible repeat (first | refine bkN_ ?_ _ | refine bkD_ ?_ | refine bkA_ ?_ _)); (iterate 6 (refine blk_far ?_ NB234_254.out _; (with_reducible repeat (first | refine bkN_ ?_ _ | refine bkD_ ?_ | refine bkA_ ?_ _)))); (iterate 9 (refine blk_far ?_ NB234_253.out _; (with_reducible repeat (first | refine bkN_ ?_ _ | refine bkD_ ?_ | refine bkA_ ?_ _)))); exact BK234.out) hb); have n8_ := Amk_ (bkB_ (g := g253) (o := .cells #[.int .i64 t235, .bool t236, .bool t237, .bool t238, .int .i64 t239, .int .i64 t240, .int .u32 t241, .int .u32 t242, .slice Ao80 t243.length co80] 27 (0, 0)) (by (with_reducible repeat (first | refine bkN_ ?_ _ | refine bkD_ ?_ | refine bkA_ ?_ _)); (iterate 6 (refine blk_far ?_ NB253_254.out _; (with_reducible repeat (first | refine bkN_ ?_ _ | refine bkD_ ?_ | refine bkA_ ?_ _)))); apply PT9_; (with_reducible repeat (first | refine bkN_ ?_ _ | refine bkD_ ?_ | refine bkA_ ?_ _)); exact BK253.out) hb); have n9_ := Amk_ (bkB_ (g := g254) (o := .cells #[.bool t246, .bool t247, .int .i64 t248, .int .i64 t249, .int .u32 t250, .int .u32 t251] 33 (0, 0)) (by (with_reducible repeat (first | refine bkN_ ?_ _ | refine bkD_ ?_ | refine bkA_ ?_ _)); apply PT6_; (with_reducible repeat (first | refine bkN_ ?_ _ | refine bkD_ ?_ | refine bkA_ ?_ _)); (iterate 9 (refine blk_far ?_ NB254_253.out _; (with_reducible repeat (first | refine bkN_ ?_ _ | refine bkD_ ?_ | refine bkA_ ?_ _)))); exact BK254.out) hb); have n10_ := Amk_ (blP_ (by repeat (first | (with_reducible first | exact HB.out | apply blA_ | apply pbN_ | apply blD_ | refine blS_ ?_ GE198.out | refine blS_ ?_ GE199.out | refine blS_ ?_ GE214.out | refine blS_ ?_ GE233.out | refine blS_ ?_ GE234.out | refine blS_ ?_ GE253.out | refine blS_ ?_ GE254.out) | exact HB.out)) hb); clear HO_199008; clear HO_234008; clear HO245; clear BK198; clear BK199; clear BK214; clear BK233; clear BK234; clear BK253; clear BK254; clear HB; have HO_199008 := n0_; have HO_234008 := n1_; have HO245 := n2_; have BK198 := n3_; have BK199 := n4_; have BK214 := n5_; have BK233 := n6_; have BK234 := n7_; have BK253 := n8_; have BK254 := n9_; have HB := n10_; clear n0_ n1_ n2_ n3_ n4_ n5_ n6_ n7_ n8_ n9_ n10_; (try clear hb); (try clear hb2); (try clear hk); (try clear hi); have hnb145 := NB253_199.out; have hnc145 := NB199_253.out; have hnb146 := NB253_214.out; have hnc146 := NB214_253.out; have hnb147 := NB253_233.out; have hnc147 := NB233_253.out; have hnb148 := NB253_234.out; have hnc148 := NB234_253.out; have hnb149 := NB253_254.out; have hnc149 := NB254_253.out; have hcz150_0 : w144.cell? ⟨g253, 0, none⟩ = some (.int .i64 t235) := (bkC_ BK253.out 0).trans rfl; have hcz150_1 : w144.cell? ⟨g253, 1, none⟩ = some (.bool t236) := (bkC_ BK253.out 1).trans rfl; have hcz150_2 : w144.cell? ⟨g253, 2, none⟩ = some (.bool t237) := (bkC_ BK253.out 2).trans rfl; have hcz150_3 : w144.cell? ⟨g253, 3, none⟩ = some (.bool t238) := (bkC_ BK253.out 3).trans rfl; have hcz150_4 : w144.cell? ⟨g253, 4, none⟩ = some (.int .i64 t239) := (bkC_ BK253.out 4).trans rfl; have hcz150_5 : w144.cell? ⟨g253, 5, none⟩ = some (.int .i64 t240) := (bkC_ BK253.out 5).trans rfl; have hcz150_6 : w144.cell? ⟨g253, 6, none⟩ = some (.int .u32 t241) := (bkC_ BK253.out 6).trans rfl; have hcz150_7 : w144.cell? ⟨g253, 7, none⟩ = some (.int .u32 t242) := (bkC_ BK253.out 7).trans rfl; have hcz150_8 : w144.cell? ⟨g253, 8, none⟩ = some (.slice Ao80 t243.length co80) := (bkC_ BK253.out 8).trans rfl; have hfz150_0 := bkF_ BK253.out 0; have hfz150_1 := bkF_ BK253.out 1; have hfz150_2 := bkF_ BK253.out 2; have hfz150_3 := bkF_ BK253.out 3; have hfz150_4 := bkF_ BK253.out 4; have hfz150_5 := bkF_ BK253.out 5; have hfz150_6 := bkF_ BK253.out 6; have hfz150_7 := bkF_ BK253.out 7; have hfz150_8 := bkF_ BK253.out 8) | (go_at_call 8; (with_reducible refine (signal_Check.calls kj26 t235 t236 t237 t238 t239 t240 t241 t242 _ _ t243 t256 _ ?side1 ?side2 A90.out).mono ?_); (case side1 => repeat (first | exact (Kd.R_reads' HO245.out).2.2 | (with_reducible refine Kd.C_alloc ?_ _) | (with_reducible refine Kd.C_drewN ?_ _) | (with_reducible refine Kd.C_drew ?_))); (case side2 => exact (Kd.R_reads' HO245.out).2.1); rintro e w151 ⟨rfl, hb⟩; have n0_ := Amk_ (Kd.R_below (by (with_reducible repeat (first | apply Kd.R_alloc | apply Kd.R_drewN | apply Kd.R_drew)); exact HO_199008.out) hb); have n1_ := Amk_ (Kd.R_below (by (with_reducible repeat (first | apply Kd.R_alloc | apply Kd.R_drewN | apply Kd.R_drew)); exact HO_234008.out) hb); have n2_ := Amk_ (Kd.R_below (by (with_reducible repeat (first | apply Kd.R_alloc | apply Kd.R_drewN | apply Kd.R_drew)); exact HO245.out) hb); have n3_ := Amk_ (bkB_ (g := g198) (o := .cells #[.int .i64 x199000_26, .bool x199001_26, .bool x199002_26, .bool x199003_26, .int .i64 x199004_26, .int .i64 x199005_26, .int .u32 x199006_26, .int .u32 x199007_26, .slice Ao69 x199008_26.length co69] 27 (0, 0)) (by (with_reducible repeat (first | refine bkN_ ?_ _ | refine bkD_ ?_ | refine bkA_ ?_ _)); exact BK198.out) hb); have n4_ := Amk_ (bkB_ (g := g199) (o := .cells #[.int .i64 a2_0, .int .i64 a2_1, .int .u32 a2_2, .int .u32 a2_3] 24 (0, 0)) (by (with_reducible repeat (first | refine bkN_ ?_ _ | refine bkD_ ?_ | refine bkA_ ?_ _)); exact BK199.out) hb); have n5_ := Amk_ (bkB_ (g := g214) (o := .cells #[.int .i64 ((rd_T47 l1 x23_1).f0), .int .i64 ((rd_T47 l1 x23_1).f1), .bool ((rd_T47 l1 x23_1).f2), .int .i64 ((rd_T47 l1 x23_1).f3.f0), .int .i64 ((rd_T47 l1 x23_1).f3.f1), .int .u32 ((rd_T47 l1 x23_1).f3.f2), .int .u32 ((rd_T47 l1 x23_1).f3.f3)] 47 (0, 0)) (by (with_reducible repeat (first | refine bkN_ ?_ _ | refine bkD_ ?_ | refine bkA_ ?_ _)); exact BK214.out) hb); have n6_ := Amk_ (bkB_ (g := g233) (o := .cells #[.int .i64 t215, .bool t216, .bool t217, .bool t218, .int .i64 t219, .int .i64 t220, .int .u32 t221, .int .u32 t222, .slice Ao43 t223.length co43] 27 (0, 0)) (by (with_reducible repeat (first | refine bkN_ ?_ _ | refine bkD_ ?_ | refine bkA_ ?_ _)); exact BK233.out) hb); have n7_ := Amk_ (bkB_ (g := g234) (o := .cells #[.bool t226, .bool t227, .int .i64 t228, .int .i64 t229, .int .u32 t230, .int .u32 t231] 33 (0, 0)) (by (with_reducible repeat (first | refine bkN_ ?_ _ | refine bkD_ ?_ | refine bkA_ ?_ _)); exact BK234.out) hb); have n8_ := Amk_ (bkB_ (g := g253) (o := .cells #[.int .i64 t235, .bool t236, .bool t237, .bool t238, .int .i64 t239, .int .i64 t240, .int .u32 t241, .int .u32 t242, .slice Ao80 t243.length co80] 27 (0, 0)) (by (with_reducible repeat (first | refine bkN_ ?_ _ | refine bkD_ ?_ | refine bkA_ ?_ _)); exact BK253.out) hb); have n9_ := Amk_ (bkB_ (g := g254) (o := .cells #[.bool t246, .bool t247, .int .i64 t248, .int .i64 t249, .int .u32 t250, .int .u32 t251] 33 (0, 0)) (by (with_reducible repeat (first | refine bkN_ ?_ _ | refine bkD_ ?_ | refine bkA_ ?_ _)); exact BK254.out) hb); have n10_ := Amk_ (blP_ (by repeat (first | (with_reducible first | exact HB.out | apply blA_ | apply pbN_ | apply blD_ | refine blS_ ?_ GE198.out | refine blS_ ?_ GE199.out | refine blS_ ?_ GE214.out | refine blS_ ?_ GE233.out | refine blS_ ?_ GE234.out | refine blS_ ?_ GE253.out | refine blS_ ?_ GE254.out) | exact HB.out)) hb); clear HO_199008; clear HO_234008; clear HO245; clear BK198; clear BK199; clear BK214; clear BK233; clear BK234; clear BK253; clear BK254; clear HB; have HO_199008 := n0_; have HO_234008 := n1_; have HO245 := n2_; have BK198 := n3_; have BK199 := n4_; have BK214 := n5_; have BK233 := n6_; have BK234 := n7_; have BK253 := n8_; have BK254 := n9_; have HB := n10_; clear n0_ n1_ n2_ n3_ n4_ n5_ n6_ n7_ n8_ n9_ n10_; (try clear hb); (try clear hb2); (try clear hk); (try clear hi)))
               go_meet
               case rel => exact ⟨_, (true), (by first | rfl | (simp; done) | (simp [*]; done)), H', ⟨by have := HK1.out; have := HJ26.out; first | omega | exact Nat.le_refl _⟩, ⟨by (with_reducible repeat (first | apply Kd.R_alloc | apply Kd.R_drewN | apply Kd.R_drew)); exact HO_199008.out⟩, ⟨by (with_reducible repeat (first | apply Kd.R_alloc | apply Kd.R_drewN | apply Kd.R_drew)); exact HO_234008.out⟩, ⟨by (with_reducible repeat (first | apply Kd.R_alloc | apply Kd.R_drewN | apply Kd.R_drew)); exact Kd.R_mono HO245.out (fun _ hk => ⟨hk.1.2, hk.2⟩)⟩, ⟨by (with_reducible repeat (first | refine bkN_ ?_ _ | refine bkD_ ?_ | refine bkA_ ?_ _)); exact BK198.out⟩, ⟨by (with_reducible repeat (first | refine bkN_ ?_ _ | refine bkD_ ?_ | refine bkA_ ?_ _)); exact BK199.out⟩, ⟨by (with_reducible repeat (first | refine bkN_ ?_ _ | refine bkD_ ?_ | refine bkA_ ?_ _)); exact BK214.out⟩, ⟨by (with_reducible repeat (first | refine bkN_ ?_ _ | refine bkD_ ?_ | refine bkA_ ?_ _)); exact BK233.out⟩, ⟨by (with_reducible repeat (first | refine bkN_ ?_ _ | refine bkD_ ?_ | refine bkA_ ?_ _)); exact BK234.out⟩, ⟨by (with_reducible repeat (first | refine bkN_ ?_ _ | refine bkD_ ?_ | refine bkA_ ?_ _)); exact BK253.out⟩, ⟨by (with_reducible repeat (first | refine bkN_ ?_ _ | refine bkD_ ?_ | refine bkA_ ?_ _)); exact BK254.out⟩, ⟨by repeat (first | (with_reducible first | exact HB.out | apply blA_ | apply pbN_ | apply blD_ | refine blS_ ?_ GE198.out | refine blS_ ?_ GE199.out | refine blS_ ?_ GE214.out | refine blS_ ?_ GE233.out | refine blS_ ?_ GE234.out | refine blS_ ?_ GE253.out | refine blS_ ?_ GE254.out) | exact HB.out)⟩⟩
             ·rw [if_neg c89] at H
              have c89b0 : (t252 == 0) = false := beq_eq_false_iff_ne.mpr c89
              have c89b1 : (t252 != 0) = true := bne_iff_ne.mpr c89
              have H' := Amk_ H
              clear H
              have hnb152 := NB198_199.out
              have hnc152 := NB199_198.out
              have hnb153 := NB198_214.out
              have hnc153 := NB214_198.out
              have hnb154 := NB198_233.out
              have hnc154 := NB233_198.out
              have hnb155 := NB198_234.out
              have hnc155 := NB234_198.out
              have hnb156 := NB198_253.out
              have hnc156 := NB253_198.out
              have hnb157 := NB198_254.out
              have hnc157 := NB254_198.out
              have hcz158_0 : w72.cell? ⟨g198, 0, none⟩ = some (.int .i64 x199000_26) := (bkC_ BK198.out 0).trans rfl
              have hcz158_1 : w72.cell? ⟨g198, 1, none⟩ = some (.bool x199001_26) := (bkC_ BK198.out 1).trans rfl
              have hcz158_2 : w72.cell? ⟨g198, 2, none⟩ = some (.bool x199002_26) := (bkC_ BK198.out 2).trans rfl
              have hcz158_3 : w72.cell? ⟨g198, 3, none⟩ = some (.bool x199003_26) := (bkC_ BK198.out 3).trans rfl
              have hcz158_4 : w72.cell? ⟨g198, 4, none⟩ = some (.int .i64 x199004_26) := (bkC_ BK198.out 4).trans rfl
              have hcz158_5 : w72.cell? ⟨g198, 5, none⟩ = some (.int .i64 x199005_26) := (bkC_ BK198.out 5).trans rfl
              have hcz158_6 : w72.cell? ⟨g198, 6, none⟩ = some (.int .u32 x199006_26) := (bkC_ BK198.out 6).trans rfl
              have hcz158_7 : w72.cell? ⟨g198, 7, none⟩ = some (.int .u32 x199007_26) := (bkC_ BK198.out 7).trans rfl
              have hcz158_8 : w72.cell? ⟨g198, 8, none⟩ = some (.slice Ao69 x199008_26.length co69) := (bkC_ BK198.out 8).trans rfl
              have hfz158_0 := bkF_ BK198.out 0
              have hfz158_1 := bkF_ BK198.out 1
              have hfz158_2 := bkF_ BK198.out 2
              have hfz158_3 := bkF_ BK198.out 3
              have hfz158_4 := bkF_ BK198.out 4
              have hfz158_5 := bkF_ BK198.out 5
              have hfz158_6 := bkF_ BK198.out 6
              have hfz158_7 := bkF_ BK198.out 7
              have hfz158_8 := bkF_ BK198.out 8
              go_wp2_with (first | ((with_reducible refine gate_callee (f := 8) rfl ?_); refine goesL_ (some 48) rfl rfl Try.func8 (by kernel_rfl) rfl #[.agg #[.int .i64 x199000_26, .bool x199001_26, .bool x199002_26, .bool x199003_26, .int .i64 x199004_26, .int .i64 x199005_26, .int .u32 x199006_26, .int .u32 x199007_26, .slice Ao69 x199008_26.length co69]] rfl (by (try simp only [List.map_toArray, List.map_cons, List.map_nil]); first | done | rfl | (simp only [List.length_drop, List.length_take]; rfl)) ?_; (with_reducible refine (signal_Check.calls kj26 x199000_26 x199001_26 x199002_26 x199003_26 x199004_26 x199005_26 x199006_26 x199007_26 _ _ x199008_26 t255 _ ?side1 ?side2 A87.out).mono ?_); (case side1 => refine (Kd.R_reads' (e := 4) (base := w.heap.size) (ok := fun k_ => (True ∧ some k_ ≠ (.slice Ao80 t243.length co80 : Value).ownBlock)) (n := x199008_26.length) (c := co69) ?_).2.2; exact (by (with_reducible repeat (first | apply Kd.R_alloc | apply Kd.R_drewN | apply Kd.R_drew)); exact (Kd.R_mono (Kd.R_mono (RF6_ (g := g254) (RF9_ (g := g253) (Kd.R_types (Kd.R_types HO_199008.out BK253.out (by decide)) BK254.out (by decide)) (fun _ hk => hk.1.2) _ _ _ _ _ _ _ _ _) (fun _ hk => hk.2) _ _ _ _ _ _) (fun _ h_ => h_.1)) (fun _ h_ => h_.1)))); (case side2 => exact (Kd.R_reads' HO_199008.out).2.1); rintro e w159 ⟨rfl, hb⟩; refine ⟨_, rfl, ?_⟩; have n0_ := Amk_ (Kd.R_below (by (with_reducible repeat (first | apply Kd.R_alloc | apply Kd.R_drewN | apply Kd.R_drew)); exact (Kd.R_mono (Kd.R_mono (RF6_ (g := g254) (RF9_ (g := g253) (Kd.R_types (Kd.R_types HO_199008.out BK253.out (by decide)) BK254.out (by decide)) (fun _ hk => hk.1.2) _ _ _ _ _ _ _ _ _) (fun _ hk => hk.2) _ _ _ _ _ _) (fun _ h_ => h_.1)) (fun _ h_ => h_.1))) hb); have n1_ := Amk_ (Kd.R_below (by (with_reducible repeat (first | apply Kd.R_alloc | apply Kd.R_drewN | apply Kd.R_drew)); exact (Kd.R_mono (Kd.R_mono (RF6_ (g := g254) (RF9_ (g := g253) (Kd.R_types (Kd.R_types HO_234008.out BK253.out (by decide)) BK254.out (by decide)) (fun _ hk => hk.1.2) _ _ _ _ _ _ _ _ _) (fun _ hk => hk.2) _ _ _ _ _ _) (fun _ h_ => h_.1)) (fun _ h_ => h_.1))) hb); have n2_ := Amk_ (Kd.R_below (by (with_reducible repeat (first | apply Kd.R_alloc | apply Kd.R_drewN | apply Kd.R_drew)); exact (Kd.R_mono (Kd.R_mono (RF6_ (g := g254) (RF9_ (g := g253) (Kd.R_types (Kd.R_types HO245.out BK253.out (by decide)) BK254.out (by decide)) (fun _ hk => hk.1.2) _ _ _ _ _ _ _ _ _) (fun _ hk => hk.2) _ _ _ _ _ _) (fun _ h_ => h_.1)) (fun _ h_ => h_.1))) hb); have n3_ := Amk_ (bkB_ (g := g198) (o := .cells #[.int .i64 x199000_26, .bool x199001_26, .bool x199002_26, .bool x199003_26, .int .i64 x199004_26, .int .i64 x199005_26, .int .u32 x199006_26, .int .u32 x199007_26, .slice Ao69 x199008_26.length co69] 27 (0, 0)) (by (with_reducible repeat (first | refine bkN_ ?_ _ | refine bkD_ ?_ | refine bkA_ ?_ _)); (iterate 6 (refine blk_far ?_ NB198_254.out _; (with_reducible repeat (first | refine bkN_ ?_ _ | refine bkD_ ?_ | refine bkA_ ?_ _)))); (iterate 9 (refine blk_far ?_ NB198_253.out _; (with_reducible repeat (first | refine bkN_ ?_ _ | refine bkD_ ?_ | refine bkA_ ?_ _)))); exact BK198.out) hb); have n4_ := Amk_ (bkB_ (g := g199) (o := .cells #[.int .i64 a2_0, .int .i64 a2_1, .int .u32 a2_2, .int .u32 a2_3] 24 (0, 0)) (by (with_reducible repeat (first | refine bkN_ ?_ _ | refine bkD_ ?_ | refine bkA_ ?_ _)); (iterate 6 (refine blk_far ?_ NB199_254.out _; (with_reducible repeat (first | refine bkN_ ?_ _ | refine bkD_ ?_ | refine bkA_ ?_ _)))); (iterate 9 (refine blk_far ?_ NB199_253.out _; (with_reducible repeat (first | refine bkN_ ?_ _ | refine bkD_ ?_ | refine bkA_ ?_ _)))); exact BK199.out) hb); have n5_ := Amk_ (bkB_ (g := g214) (o := .cells #[.int .i64 ((rd_T47 l1 x23_1).f0), .int .i64 ((rd_T47 l1 x23_1).f1), .bool ((rd_T47 l1 x23_1).f2), .int .i64 ((rd_T47 l1 x23_1).f3.f0), .int .i64 ((rd_T47 l1 x23_1).f3.f1), .int .u32 ((rd_T47 l1 x23_1).f3.f2), .int .u32 ((rd_T47 l1 x23_1).f3.f3)] 47 (0, 0)) (by (with_reducible repeat (first | refine bkN_ ?_ _ | refine bkD_ ?_ | refine bkA_ ?_ _)); (iterate 6 (refine blk_far ?_ NB214_254.out _; (with_reducible repeat (first | refine bkN_ ?_ _ | refine bkD_ ?_ | refine bkA_ ?_ _)))); (iterate 9 (refine blk_far ?_ NB214_253.out _; (with_reducible repeat (first | refine bkN_ ?_ _ | refine bkD_ ?_ | refine bkA_ ?_ _)))); exact BK214.out) hb); have n6_ := Amk_ (bkB_ (g := g233) (o := .cells #[.int .i64 t215, .bool t216, .bool t217, .bool t218, .int .i64 t219, .int .i64 t220, .int .u32 t221, .int .u32 t222, .slice Ao43 t223.length co43] 27 (0, 0)) (by (with_reducible repeat (first | refine bkN_ ?_ _ | refine bkD_ ?_ | refine bkA_ ?_ _)); (iterate 6 (refine blk_far ?_ NB233_254.out _; (with_reducible repeat (first | refine bkN_ ?_ _ | refine bkD_ ?_ | refine bkA_ ?_ _)))); (iterate 9 (refine blk_far ?_ NB233_253.out _; (with_reducible repeat (first | refine bkN_ ?_ _ | refine bkD_ ?_ | refine bkA_ ?_ _)))); exact BK233.out) hb); have n7_ := Amk_ (bkB_ (g := g234) (o := .cells #[.bool t226, .bool t227, .int .i64 t228, .int .i64 t229, .int .u32 t230, .int .u32 t231] 33 (0, 0)) (by (with_reducible repeat (first | refine bkN_ ?_ _ | refine bkD_ ?_ | refine bkA_ ?_ _)); (iterate 6 (refine blk_far ?_ NB234_254.out _; (with_reducible repeat (first | refine bkN_ ?_ _ | refine bkD_ ?_ | refine bkA_ ?_ _)))); (iterate 9 (refine blk_far ?_ NB234_253.out _; (with_reducible repeat (first | refine bkN_ ?_ _ | refine bkD_ ?_ | refine bkA_ ?_ _)))); exact BK234.out) hb); have n8_ := Amk_ (bkB_ (g := g253) (o := .cells #[.int .i64 t235, .bool t236, .bool t237, .bool t238, .int .i64 t239, .int .i64 t240, .int .u32 t241, .int .u32 t242, .slice Ao80 t243.length co80] 27 (0, 0)) (by (with_reducible repeat (first | refine bkN_ ?_ _ | refine bkD_ ?_ | refine bkA_ ?_ _)); (iterate 6 (refine blk_far ?_ NB253_254.out _; (with_reducible repeat (first | refine bkN_ ?_ _ | refine bkD_ ?_ | refine bkA_ ?_ _)))); apply PT9_; (with_reducible repeat (first | refine bkN_ ?_ _ | refine bkD_ ?_ | refine bkA_ ?_ _)); exact BK253.out) hb); have n9_ := Amk_ (bkB_ (g := g254) (o := .cells #[.bool t246, .bool t247, .int .i64 t248, .int .i64 t249, .int .u32 t250, .int .u32 t251] 33 (0, 0)) (by (with_reducible repeat (first | refine bkN_ ?_ _ | refine bkD_ ?_ | refine bkA_ ?_ _)); apply PT6_; (with_reducible repeat (first | refine bkN_ ?_ _ | refine bkD_ ?_ | refine bkA_ ?_ _)); (iterate 9 (refine blk_far ?_ NB254_253.out _; (with_reducible repeat (first | refine bkN_ ?_ _ | refine bkD_ ?_ | refine bkA_ ?_ _)))); exact BK254.out) hb); have n10_ := Amk_ (blP_ (by repeat (first | (with_reducible first | exact HB.out | apply blA_ | apply pbN_ | apply blD_ | refine blS_ ?_ GE198.out | refine blS_ ?_ GE199.out | refine blS_ ?_ GE214.out | refine blS_ ?_ GE233.out | refine blS_ ?_ GE234.out | refine blS_ ?_ GE253.out | refine blS_ ?_ GE254.out) | exact HB.out)) hb); clear HO_199008; clear HO_234008; clear HO245; clear BK198; clear BK199; clear BK214; clear BK233; clear BK234; clear BK253; clear BK254; clear HB; have HO_199008 := n0_; have HO_234008 := n1_; have HO245 := n2_; have BK198 := n3_; have BK199 := n4_; have BK214 := n5_; have BK233 := n6_; have BK234 := n7_; have BK253 := n8_; have BK254 := n9_; have HB := n10_; clear n0_ n1_ n2_ n3_ n4_ n5_ n6_ n7_ n8_ n9_ n10_; (try clear hb); (try clear hb2); (try clear hk); (try clear hi)))
              go_meet
              case rel => exact ⟨_, (true), (by first | rfl | (simp; done) | (simp [*]; done)), H', ⟨by have := HK1.out; have := HJ26.out; first | omega | exact Nat.le_refl _⟩, ⟨by (with_reducible repeat (first | apply Kd.R_alloc | apply Kd.R_drewN | apply Kd.R_drew)); exact HO_199008.out⟩, ⟨by (with_reducible repeat (first | apply Kd.R_alloc | apply Kd.R_drewN | apply Kd.R_drew)); exact HO_234008.out⟩, ⟨by (with_reducible repeat (first | apply Kd.R_alloc | apply Kd.R_drewN | apply Kd.R_drew)); exact Kd.R_mono HO245.out (fun _ hk => ⟨hk.1.2, hk.2⟩)⟩, ⟨by (with_reducible repeat (first | refine bkN_ ?_ _ | refine bkD_ ?_ | refine bkA_ ?_ _)); exact BK198.out⟩, ⟨by (with_reducible repeat (first | refine bkN_ ?_ _ | refine bkD_ ?_ | refine bkA_ ?_ _)); exact BK199.out⟩, ⟨by (with_reducible repeat (first | refine bkN_ ?_ _ | refine bkD_ ?_ | refine bkA_ ?_ _)); exact BK214.out⟩, ⟨by (with_reducible repeat (first | refine bkN_ ?_ _ | refine bkD_ ?_ | refine bkA_ ?_ _)); exact BK233.out⟩, ⟨by (with_reducible repeat (first | refine bkN_ ?_ _ | refine bkD_ ?_ | refine bkA_ ?_ _)); exact BK234.out⟩, ⟨by (with_reducible repeat (first | refine bkN_ ?_ _ | refine bkD_ ?_ | refine bkA_ ?_ _)); exact BK253.out⟩, ⟨by (with_reducible repeat (first | refine bkN_ ?_ _ | refine bkD_ ?_ | refine bkA_ ?_ _)); exact BK254.out⟩, ⟨by repeat (first | (with_reducible first | exact HB.out | apply blA_ | apply pbN_ | apply blD_ | refine blS_ ?_ GE198.out | refine blS_ ?_ GE199.out | refine blS_ ?_ GE214.out | refine blS_ ?_ GE233.out | refine blS_ ?_ GE234.out | refine blS_ ?_ GE253.out | refine blS_ ?_ GE254.out) | exact HB.out)⟩⟩
            ·rw [if_neg c88] at H
             have c88b0 : (t255 == 0) = false := beq_eq_false_iff_ne.mpr c88
             have c88b1 : (t255 != 0) = true := bne_iff_ne.mpr c88
             (first | rw [c88b0] | (simp only [i64_w, i32_w]; rw [c88b0]) | skip)
             have H' := Amk_ H
             clear H
             have hnb160 := NB198_199.out
             have hnc160 := NB199_198.out
             have hnb161 := NB198_214.out
             have hnc161 := NB214_198.out
             have hnb162 := NB198_233.out
             have hnc162 := NB233_198.out
             have hnb163 := NB198_234.out
             have hnc163 := NB234_198.out
             have hnb164 := NB198_253.out
             have hnc164 := NB253_198.out
             have hnb165 := NB198_254.out
             have hnc165 := NB254_198.out
             have hcz166_0 : w72.cell? ⟨g198, 0, none⟩ = some (.int .i64 x199000_26) := (bkC_ BK198.out 0).trans rfl
             have hcz166_1 : w72.cell? ⟨g198, 1, none⟩ = some (.bool x199001_26) := (bkC_ BK198.out 1).trans rfl
             have hcz166_2 : w72.cell? ⟨g198, 2, none⟩ = some (.bool x199002_26) := (bkC_ BK198.out 2).trans rfl
             have hcz166_3 : w72.cell? ⟨g198, 3, none⟩ = some (.bool x199003_26) := (bkC_ BK198.out 3).trans rfl
             have hcz166_4 : w72.cell? ⟨g198, 4, none⟩ = some (.int .i64 x199004_26) := (bkC_ BK198.out 4).trans rfl
             have hcz166_5 : w72.cell? ⟨g198, 5, none⟩ = some (.int .i64 x199005_26) := (bkC_ BK198.out 5).trans rfl
             have hcz166_6 : w72.cell? ⟨g198, 6, none⟩ = some (.int .u32 x199006_26) := (bkC_ BK198.out 6).trans rfl
             have hcz166_7 : w72.cell? ⟨g198, 7, none⟩ = some (.int .u32 x199007_26) := (bkC_ BK198.out 7).trans rfl
             have hcz166_8 : w72.cell? ⟨g198, 8, none⟩ = some (.slice Ao69 x199008_26.length co69) := (bkC_ BK198.out 8).trans rfl
             have hfz166_0 := bkF_ BK198.out 0
             have hfz166_1 := bkF_ BK198.out 1
             have hfz166_2 := bkF_ BK198.out 2
             have hfz166_3 := bkF_ BK198.out 3
             have hfz166_4 := bkF_ BK198.out 4
             have hfz166_5 := bkF_ BK198.out 5
             have hfz166_6 := bkF_ BK198.out 6
             have hfz166_7 := bkF_ BK198.out 7
             have hfz166_8 := bkF_ BK198.out 8
             go_wp2_with (first | ((with_reducible refine gate_callee (f := 8) rfl ?_); refine goesL_ (some 48) rfl rfl Try.func8 (by kernel_rfl) rfl #[.agg #[.int .i64 x199000_26, .bool x199001_26, .bool x199002_26, .bool x199003_26, .int .i64 x199004_26, .int .i64 x199005_26, .int .u32 x199006_26, .int .u32 x199007_26, .slice Ao69 x199008_26.length co69]] rfl (by (try simp only [List.map_toArray, List.map_cons, List.map_nil]); first | done | rfl | (simp only [List.length_drop, List.length_take]; rfl)) ?_; (with_reducible refine (signal_Check.calls kj26 x199000_26 x199001_26 x199002_26 x199003_26 x199004_26 x199005_26 x199006_26 x199007_26 _ _ x199008_26 t255 _ ?side1 ?side2 A87.out).mono ?_); (case side1 => refine (Kd.R_reads' (e := 4) (base := w.heap.size) (ok := fun k_ => (True ∧ some k_ ≠ (.slice Ao80 t243.length co80 : Value).ownBlock)) (n := x199008_26.length) (c := co69) ?_).2.2; exact (by (with_reducible repeat (first | apply Kd.R_alloc | apply Kd.R_drewN | apply Kd.R_drew)); exact (Kd.R_mono (Kd.R_mono (RF6_ (g := g254) (RF9_ (g := g253) (Kd.R_types (Kd.R_types HO_199008.out BK253.out (by decide)) BK254.out (by decide)) (fun _ hk => hk.1.2) _ _ _ _ _ _ _ _ _) (fun _ hk => hk.2) _ _ _ _ _ _) (fun _ h_ => h_.1)) (fun _ h_ => h_.1)))); (case side2 => exact (Kd.R_reads' HO_199008.out).2.1); rintro e w167 ⟨rfl, hb⟩; refine ⟨_, rfl, ?_⟩; have n0_ := Amk_ (Kd.R_below (by (with_reducible repeat (first | apply Kd.R_alloc | apply Kd.R_drewN | apply Kd.R_drew)); exact (Kd.R_mono (Kd.R_mono (RF6_ (g := g254) (RF9_ (g := g253) (Kd.R_types (Kd.R_types HO_199008.out BK253.out (by decide)) BK254.out (by decide)) (fun _ hk => hk.1.2) _ _ _ _ _ _ _ _ _) (fun _ hk => hk.2) _ _ _ _ _ _) (fun _ h_ => h_.1)) (fun _ h_ => h_.1))) hb); have n1_ := Amk_ (Kd.R_below (by (with_reducible repeat (first | apply Kd.R_alloc | apply Kd.R_drewN | apply Kd.R_drew)); exact (Kd.R_mono (Kd.R_mono (RF6_ (g := g254) (RF9_ (g := g253) (Kd.R_types (Kd.R_types HO_234008.out BK253.out (by decide)) BK254.out (by decide)) (fun _ hk => hk.1.2) _ _ _ _ _ _ _ _ _) (fun _ hk => hk.2) _ _ _ _ _ _) (fun _ h_ => h_.1)) (fun _ h_ => h_.1))) hb); have n2_ := Amk_ (Kd.R_below (by (with_reducible repeat (first | apply Kd.R_alloc | apply Kd.R_drewN | apply Kd.R_drew)); exact (Kd.R_mono (Kd.R_mono (RF6_ (g := g254) (RF9_ (g := g253) (Kd.R_types (Kd.R_types HO245.out BK253.out (by decide)) BK254.out (by decide)) (fun _ hk => hk.1.2) _ _ _ _ _ _ _ _ _) (fun _ hk => hk.2) _ _ _ _ _ _) (fun _ h_ => h_.1)) (fun _ h_ => h_.1))) hb); have n3_ := Amk_ (bkB_ (g := g198) (o := .cells #[.int .i64 x199000_26, .bool x199001_26, .bool x199002_26, .bool x199003_26, .int .i64 x199004_26, .int .i64 x199005_26, .int .u32 x199006_26, .int .u32 x199007_26, .slice Ao69 x199008_26.length co69] 27 (0, 0)) (by (with_reducible repeat (first | refine bkN_ ?_ _ | refine bkD_ ?_ | refine bkA_ ?_ _)); (iterate 6 (refine blk_far ?_ NB198_254.out _; (with_reducible repeat (first | refine bkN_ ?_ _ | refine bkD_ ?_ | refine bkA_ ?_ _)))); (iterate 9 (refine blk_far ?_ NB198_253.out _; (with_reducible repeat (first | refine bkN_ ?_ _ | refine bkD_ ?_ | refine bkA_ ?_ _)))); exact BK198.out) hb); have n4_ := Amk_ (bkB_ (g := g199) (o := .cells #[.int .i64 a2_0, .int .i64 a2_1, .int .u32 a2_2, .int .u32 a2_3] 24 (0, 0)) (by (with_reducible repeat (first | refine bkN_ ?_ _ | refine bkD_ ?_ | refine bkA_ ?_ _)); (iterate 6 (refine blk_far ?_ NB199_254.out _; (with_reducible repeat (first | refine bkN_ ?_ _ | refine bkD_ ?_ | refine bkA_ ?_ _)))); (iterate 9 (refine blk_far ?_ NB199_253.out _; (with_reducible repeat (first | refine bkN_ ?_ _ | refine bkD_ ?_ | refine bkA_ ?_ _)))); exact BK199.out) hb); have n5_ := Amk_ (bkB_ (g := g214) (o := .cells #[.int .i64 ((rd_T47 l1 x23_1).f0), .int .i64 ((rd_T47 l1 x23_1).f1), .bool ((rd_T47 l1 x23_1).f2), .int .i64 ((rd_T47 l1 x23_1).f3.f0), .int .i64 ((rd_T47 l1 x23_1).f3.f1), .int .u32 ((rd_T47 l1 x23_1).f3.f2), .int .u32 ((rd_T47 l1 x23_1).f3.f3)] 47 (0, 0)) (by (with_reducible repeat (first | refine bkN_ ?_ _ | refine bkD_ ?_ | refine bkA_ ?_ _)); (iterate 6 (refine blk_far ?_ NB214_254.out _; (with_reducible repeat (first | refine bkN_ ?_ _ | refine bkD_ ?_ | refine bkA_ ?_ _)))); (iterate 9 (refine blk_far ?_ NB214_253.out _; (with_reducible repeat (first | refine bkN_ ?_ _ | refine bkD_ ?_ | refine bkA_ ?_ _)))); exact BK214.out) hb); have n6_ := Amk_ (bkB_ (g := g233) (o := .cells #[.int .i64 t215, .bool t216, .bool t217, .bool t218, .int .i64 t219, .int .i64 t220, .int .u32 t221, .int .u32 t222, .slice Ao43 t223.length co43] 27 (0, 0)) (by (with_reducible repeat (first | refine bkN_ ?_ _ | refine bkD_ ?_ | refine bkA_ ?_ _)); (iterate 6 (refine blk_far ?_ NB233_254.out _; (with_reducible repeat (first | refine bkN_ ?_ _ | refine bkD_ ?_ | refine bkA_ ?_ _)))); (iterate 9 (refine blk_far ?_ NB233_253.out _; (with_reducible repeat (first | refine bkN_ ?_ _ | refine bkD_ ?_ | refine bkA_ ?_ _)))); exact BK233.out) hb); have n7_ := Amk_ (bkB_ (g := g234) (o := .cells #[.bool t226, .bool t227, .int .i64 t228, .int .i64 t229, .int .u32 t230, .int .u32 t231] 33 (0, 0)) (by (with_reducible repeat (first | refine bkN_ ?_ _ | refine bkD_ ?_ | refine bkA_ ?_ _)); (iterate 6 (refine blk_far ?_ NB234_254.out _; (with_reducible repeat (first | refine bkN_ ?_ _ | refine bkD_ ?_ | refine bkA_ ?_ _)))); (iterate 9 (refine blk_far ?_ NB234_253.out _; (with_reducible repeat (first | refine bkN_ ?_ _ | refine bkD_ ?_ | refine bkA_ ?_ _)))); exact BK234.out) hb); have n8_ := Amk_ (bkB_ (g := g253) (o := .cells #[.int .i64 t235, .bool t236, .bool t237, .bool t238, .int .i64 t239, .int .i64 t240, .int .u32 t241, .int .u32 t242, .slice Ao80 t243.length co80] 27 (0, 0)) (by (with_reducible repeat (first | refine bkN_ ?_ _ | refine bkD_ ?_ | refine bkA_ ?_ _)); (iterate 6 (refine blk_far ?_ NB253_254.out _; (with_reducible repeat (first | refine bkN_ ?_ _ | refine bkD_ ?_ | refine bkA_ ?_ _)))); apply PT9_; (with_reducible repeat (first | refine bkN_ ?_ _ | refine bkD_ ?_ | refine bkA_ ?_ _)); exact BK253.out) hb); have n9_ := Amk_ (bkB_ (g := g254) (o := .cells #[.bool t246, .bool t247, .int .i64 t248, .int .i64 t249, .int .u32 t250, .int .u32 t251] 33 (0, 0)) (by (with_reducible repeat (first | refine bkN_ ?_ _ | refine bkD_ ?_ | refine bkA_ ?_ _)); apply PT6_; (with_reducible repeat (first | refine bkN_ ?_ _ | refine bkD_ ?_ | refine bkA_ ?_ _)); (iterate 9 (refine blk_far ?_ NB254_253.out _; (with_reducible repeat (first | refine bkN_ ?_ _ | refine bkD_ ?_ | refine bkA_ ?_ _)))); exact BK254.out) hb); have n10_ := Amk_ (blP_ (by repeat (first | (with_reducible first | exact HB.out | apply blA_ | apply pbN_ | apply blD_ | refine blS_ ?_ GE198.out | refine blS_ ?_ GE199.out | refine blS_ ?_ GE214.out | refine blS_ ?_ GE233.out | refine blS_ ?_ GE234.out | refine blS_ ?_ GE253.out | refine blS_ ?_ GE254.out) | exact HB.out)) hb); clear HO_199008; clear HO_234008; clear HO245; clear BK198; clear BK199; clear BK214; clear BK233; clear BK234; clear BK253; clear BK254; clear HB; have HO_199008 := n0_; have HO_234008 := n1_; have HO245 := n2_; have BK198 := n3_; have BK199 := n4_; have BK214 := n5_; have BK233 := n6_; have BK234 := n7_; have BK253 := n8_; have BK254 := n9_; have HB := n10_; clear n0_ n1_ n2_ n3_ n4_ n5_ n6_ n7_ n8_ n9_ n10_; (try clear hb); (try clear hb2); (try clear hk); (try clear hi)))
             go_meet
             case rel => exact ⟨_, (true), (by first | rfl | (simp; done) | (simp [*]; done)), H', ⟨by have := HK1.out; have := HJ26.out; first | omega | exact Nat.le_refl _⟩, ⟨by (with_reducible repeat (first | apply Kd.R_alloc | apply Kd.R_drewN | apply Kd.R_drew)); exact HO_199008.out⟩, ⟨by (with_reducible repeat (first | apply Kd.R_alloc | apply Kd.R_drewN | apply Kd.R_drew)); exact HO_234008.out⟩, ⟨by (with_reducible repeat (first | apply Kd.R_alloc | apply Kd.R_drewN | apply Kd.R_drew)); exact Kd.R_mono HO245.out (fun _ hk => ⟨hk.1.2, hk.2⟩)⟩, ⟨by (with_reducible repeat (first | refine bkN_ ?_ _ | refine bkD_ ?_ | refine bkA_ ?_ _)); exact BK198.out⟩, ⟨by (with_reducible repeat (first | refine bkN_ ?_ _ | refine bkD_ ?_ | refine bkA_ ?_ _)); exact BK199.out⟩, ⟨by (with_reducible repeat (first | refine bkN_ ?_ _ | refine bkD_ ?_ | refine bkA_ ?_ _)); exact BK214.out⟩, ⟨by (with_reducible repeat (first | refine bkN_ ?_ _ | refine bkD_ ?_ | refine bkA_ ?_ _)); exact BK233.out⟩, ⟨by (with_reducible repeat (first | refine bkN_ ?_ _ | refine bkD_ ?_ | refine bkA_ ?_ _)); exact BK234.out⟩, ⟨by (with_reducible repeat (first | refine bkN_ ?_ _ | refine bkD_ ?_ | refine bkA_ ?_ _)); exact BK253.out⟩, ⟨by (with_reducible repeat (first | refine bkN_ ?_ _ | refine bkD_ ?_ | refine bkA_ ?_ _)); exact BK254.out⟩, ⟨by repeat (first | (with_reducible first | exact HB.out | apply blA_ | apply pbN_ | apply blD_ | refine blS_ ?_ GE198.out | refine blS_ ?_ GE199.out | refine blS_ ?_ GE214.out | refine blS_ ?_ GE233.out | refine blS_ ?_ GE234.out | refine blS_ ?_ GE253.out | refine blS_ ?_ GE254.out) | exact HB.out)⟩⟩
           case rest =>
            clear HC59
            try clear c1
            try clear c2
            try clear p2
            try clear q2
            try clear hx2
            try clear c3
            try clear c4
            try clear c5
            try clear c6
            try clear c7
            try clear c8
            try clear c8b0
            try clear c8b1
            try clear c9
            try clear c10
            try clear c11
            try clear c12
            try clear c13
            try clear c14
            try clear c15
            try clear c16
            try clear c18
            try clear c18b0
            try clear c19
            try clear c19b0
            try clear c20
            try clear c20b0
            try clear c21
            try clear c21b0
            try clear c21b1
            try clear p21
            try clear q21
            try clear hx21
            try clear c23
            try clear c24
            try clear c29
            try clear c30
            try clear c32
            try clear c38
            try clear c39
            try clear c40
            try clear c41
            try clear c44
            try clear c45
            try clear c46
            try clear c48
            try clear c48b0
            try clear c48b1
            try clear c49
            try clear c50
            try clear c51
            try clear c52
            try clear c54
            try clear c55
            try clear c56
            try clear c60
            try clear c61
            try clear c62
            try clear c63
            try clear c65
            try clear c66
            try clear c67
            try clear c73
            try clear c74
            try clear c75
            try clear c76
            try clear c77
            try clear c78
            try clear c81
            try clear c82
            try clear c83
            try clear c84
            try clear c85
            try clear c88
            try clear c88b0
            try clear c88b1
            try clear c89
            try clear c89b0
            try clear c89b1
            try clear c91
            try clear c91b0
            try clear c91b1
            try clear c92
            try clear c92b0
            try clear c92b1
            try clear c92b2
            try clear c93
            try clear c94
            try clear c95
            try clear c96
            try clear c97
            try clear c98
            try clear c101
            try clear c102
            try clear c103
            try clear c104
            try clear c105
            try clear c108
            try clear c109
            try clear c110
            try clear c111
            try clear c113
            try clear c114
            try clear c115
            try clear c116
            try clear c117
            try clear c118
            try clear c121
            try clear c122
            try clear c123
            try clear c124
            try clear c125
            try clear c128
            try clear c129
            try clear c130
            try clear c131
            try clear c133
            try clear c134
            try clear c135
            try clear c137
            try clear c138
            try clear c139
            try clear c140
            try clear c141
            try clear c142
            try clear c145
            try clear c146
            try clear c147
            try clear c148
            try clear c149
            try clear c152
            try clear c153
            try clear c154
            try clear c155
            try clear c156
            try clear c157
            try clear c160
            try clear c161
            try clear c162
            try clear c163
            try clear c164
            try clear c165
            try clear hcz106_0
            try clear hcz106_1
            try clear hcz106_2
            try clear hcz106_3
            try clear hcz106_4
            try clear hcz106_5
            try clear hcz106_6
            try clear hcz106_7
            try clear hcz106_8
            try clear hcz112_0
            try clear hcz112_1
            try clear hcz112_2
            try clear hcz112_3
            try clear hcz112_4
            try clear hcz112_5
            try clear hcz119_0
            try clear hcz119_1
            try clear hcz119_2
            try clear hcz119_3
            try clear hcz119_4
            try clear hcz119_5
            try clear hcz119_6
            try clear hcz119_7
            try clear hcz119_8
            try clear hcz126_0
            try clear hcz126_1
            try clear hcz126_2
            try clear hcz126_3
            try clear hcz126_4
            try clear hcz126_5
            try clear hcz126_6
            try clear hcz126_7
            try clear hcz126_8
            try clear hcz132_0
            try clear hcz132_1
            try clear hcz132_2
            try clear hcz132_3
            try clear hcz132_4
            try clear hcz132_5
            try clear hcz136_0
            try clear hcz136_1
            try clear hcz136_2
            try clear hcz136_3
            try clear hcz13_0
            try clear hcz13_1
            try clear hcz13_2
            try clear hcz13_3
            try clear hcz13_4
            try clear hcz13_5
            try clear hcz13_6
            try clear hcz13_7
            try clear hcz13_8
            try clear hcz143_0
            try clear hcz143_1
            try clear hcz143_2
            try clear hcz143_3
            try clear hcz143_4
            try clear hcz143_5
            try clear hcz143_6
            try clear hcz143_7
            try clear hcz143_8
            try clear hcz150_0
            try clear hcz150_1
            try clear hcz150_2
            try clear hcz150_3
            try clear hcz150_4
            try clear hcz150_5
            try clear hcz150_6
            try clear hcz150_7
            try clear hcz150_8
            try clear hcz158_0
            try clear hcz158_1
            try clear hcz158_2
            try clear hcz158_3
            try clear hcz158_4
            try clear hcz158_5
            try clear hcz158_6
            try clear hcz158_7
            try clear hcz158_8
            try clear hcz15_0
            try clear hcz15_1
            try clear hcz15_2
            try clear hcz15_3
            try clear hcz15_4
            try clear hcz15_5
            try clear hcz15_6
            try clear hcz15_7
            try clear hcz15_8
            try clear hcz166_0
            try clear hcz166_1
            try clear hcz166_2
            try clear hcz166_3
            try clear hcz166_4
            try clear hcz166_5
            try clear hcz166_6
            try clear hcz166_7
            try clear hcz166_8
            try clear hcz25_0
            try clear hcz25_1
            try clear hcz25_2
            try clear hcz25_3
            try clear hcz25_4
            try clear hcz25_5
            try clear hcz25_6
            try clear hcz31_0
            try clear hcz31_1
            try clear hcz31_2
            try clear hcz31_3
            try clear hcz31_4
            try clear hcz31_5
            try clear hcz31_6
            try clear hcz33_0
            try clear hcz33_1
            try clear hcz33_2
            try clear hcz33_3
            try clear hcz33_4
            try clear hcz33_5
            try clear hcz33_6
            try clear hcz33_7
            try clear hcz33_8
            try clear hcz42_0
            try clear hcz42_1
            try clear hcz42_2
            try clear hcz42_3
            try clear hcz42_4
            try clear hcz42_5
            try clear hcz42_6
            try clear hcz42_7
            try clear hcz42_8
            try clear hcz47_0
            try clear hcz47_1
            try clear hcz47_2
            try clear hcz47_3
            try clear hcz47_4
            try clear hcz47_5
            try clear hcz53_0
            try clear hcz53_1
            try clear hcz53_2
            try clear hcz53_3
            try clear hcz53_4
            try clear hcz53_5
            try clear hcz53_6
            try clear hcz53_7
            try clear hcz53_8
            try clear hcz57_0
            try clear hcz57_1
            try clear hcz57_2
            try clear hcz57_3
            try clear hcz57_4
            try clear hcz57_5
            try clear hcz57_6
            try clear hcz57_7
            try clear hcz57_8
            try clear hcz64_0
            try clear hcz64_1
            try clear hcz64_2
            try clear hcz64_3
            try clear hcz64_4
            try clear hcz64_5
            try clear hcz64_6
            try clear hcz64_7
            try clear hcz64_8
            try clear hcz68_0
            try clear hcz68_1
            try clear hcz68_2
            try clear hcz68_3
            try clear hcz79_0
            try clear hcz79_1
            try clear hcz79_2
            try clear hcz79_3
            try clear hcz79_4
            try clear hcz79_5
            try clear hcz79_6
            try clear hcz79_7
            try clear hcz79_8
            try clear hcz86_0
            try clear hcz86_1
            try clear hcz86_2
            try clear hcz86_3
            try clear hcz86_4
            try clear hcz86_5
            try clear hcz99_0
            try clear hcz99_1
            try clear hcz99_2
            try clear hcz99_3
            try clear hcz99_4
            try clear hcz99_5
            try clear hcz99_6
            try clear hcz99_7
            try clear hcz99_8
            try clear hfz106_0
            try clear hfz106_1
            try clear hfz106_2
            try clear hfz106_3
            try clear hfz106_4
            try clear hfz106_5
            try clear hfz106_6
            try clear hfz106_7
            try clear hfz106_8
            try clear hfz112_0
            try clear hfz112_1
            try clear hfz112_2
            try clear hfz112_3
            try clear hfz112_4
            try clear hfz112_5
            try clear hfz119_0
            try clear hfz119_1
            try clear hfz119_2
            try clear hfz119_3
            try clear hfz119_4
            try clear hfz119_5
            try clear hfz119_6
            try clear hfz119_7
            try clear hfz119_8
            try clear hfz126_0
            try clear hfz126_1
            try clear hfz126_2
            try clear hfz126_3
            try clear hfz126_4
            try clear hfz126_5
            try clear hfz126_6
            try clear hfz126_7
            try clear hfz126_8
            try clear hfz132_0
            try clear hfz132_1
            try clear hfz132_2
            try clear hfz132_3
            try clear hfz132_4
            try clear hfz132_5
            try clear hfz136_0
            try clear hfz136_1
            try clear hfz136_2
            try clear hfz136_3
            try clear hfz13_0
            try clear hfz13_1
            try clear hfz13_2
            try clear hfz13_3
            try clear hfz13_4
            try clear hfz13_5
            try clear hfz13_6
            try clear hfz13_7
            try clear hfz13_8
            try clear hfz143_0
            try clear hfz143_1
            try clear hfz143_2
            try clear hfz143_3
            try clear hfz143_4
            try clear hfz143_5
            try clear hfz143_6
            try clear hfz143_7
            try clear hfz143_8
            try clear hfz150_0
            try clear hfz150_1
            try clear hfz150_2
            try clear hfz150_3
            try clear hfz150_4
            try clear hfz150_5
            try clear hfz150_6
            try clear hfz150_7
            try clear hfz150_8
            try clear hfz158_0
            try clear hfz158_1
            try clear hfz158_2
            try clear hfz158_3
            try clear hfz158_4
            try clear hfz158_5
            try clear hfz158_6
            try clear hfz158_7
            try clear hfz158_8
            try clear hfz15_0
            try clear hfz15_1
            try clear hfz15_2
            try clear hfz15_3
            try clear hfz15_4
            try clear hfz15_5
            try clear hfz15_6
            try clear hfz15_7
            try clear hfz15_8
            try clear hfz166_0
            try clear hfz166_1
            try clear hfz166_2
            try clear hfz166_3
            try clear hfz166_4
            try clear hfz166_5
            try clear hfz166_6
            try clear hfz166_7
            try clear hfz166_8
            try clear hfz25_0
            try clear hfz25_1
            try clear hfz25_2
            try clear hfz25_3
            try clear hfz25_4
            try clear hfz25_5
            try clear hfz25_6
            try clear hfz31_0
            try clear hfz31_1
            try clear hfz31_2
            try clear hfz31_3
            try clear hfz31_4
            try clear hfz31_5
            try clear hfz31_6
            try clear hfz33_0
            try clear hfz33_1
            try clear hfz33_2
            try clear hfz33_3
            try clear hfz33_4
            try clear hfz33_5
            try clear hfz33_6
            try clear hfz33_7
            try clear hfz33_8
            try clear hfz42_0
            try clear hfz42_1
            try clear hfz42_2
            try clear hfz42_3
            try clear hfz42_4
            try clear hfz42_5
            try clear hfz42_6
            try clear hfz42_7
            try clear hfz42_8
            try clear hfz47_0
            try clear hfz47_1
            try clear hfz47_2
            try clear hfz47_3
            try clear hfz47_4
            try clear hfz47_5
            try clear hfz53_0
            try clear hfz53_1
            try clear hfz53_2
            try clear hfz53_3
            try clear hfz53_4
            try clear hfz53_5
            try clear hfz53_6
            try clear hfz53_7
            try clear hfz53_8
            try clear hfz57_0
            try clear hfz57_1
            try clear hfz57_2
            try clear hfz57_3
            try clear hfz57_4
            try clear hfz57_5
            try clear hfz57_6
            try clear hfz57_7
            try clear hfz57_8
            try clear hfz64_0
            try clear hfz64_1
            try clear hfz64_2
            try clear hfz64_3
            try clear hfz64_4
            try clear hfz64_5
            try clear hfz64_6
            try clear hfz64_7
            try clear hfz64_8
            try clear hfz68_0
            try clear hfz68_1
            try clear hfz68_2
            try clear hfz68_3
            try clear hfz79_0
            try clear hfz79_1
            try clear hfz79_2
            try clear hfz79_3
            try clear hfz79_4
            try clear hfz79_5
            try clear hfz79_6
            try clear hfz79_7
            try clear hfz79_8
            try clear hfz86_0
            try clear hfz86_1
            try clear hfz86_2
            try clear hfz86_3
            try clear hfz86_4
            try clear hfz86_5
            try clear hfz99_0
            try clear hfz99_1
            try clear hfz99_2
            try clear hfz99_3
            try clear hfz99_4
            try clear hfz99_5
            try clear hfz99_6
            try clear hfz99_7
            try clear hfz99_8
            try clear hx213_0
            try clear hx213_1
            try clear hx213_2
            try clear hx213_3
            try clear hx213_4
            try clear hx213_5
            try clear hx213_6
            try clear p2
            try clear p21
            try clear p213
            try clear q2
            try clear q21
            try clear q213
            obtain ⟨kq, x71_58, rfl, HA, HJ58, HO_199008, HO_234008, HO_254008, BK198, BK199, BK214, BK233, BK234, BK253, BK254, HB⟩ := hcut
            cases kq with
            | zero => exact absurd HA.out (by simp [wicketgatelaw26_SignalForces.j2])
            | succ kj58 =>
             have H := HA.out
             clear HA
             simp only [wicketgatelaw26_SignalForces.j2] at H
             by_cases c168 : x71_58 = true
             ·subst c168
              have H1 : (some false) = some r := by rw [if_pos rfl] at H; exact H
              clear H
              have H := H1
              clear H1
              exact absurd ((Option.some.inj H).trans HRr.out) (by simp)
             ·replace c168 := Bool.eq_false_iff.mpr c168
              subst c168
              have H1 : (if t247 = true then (if x199002_26 = true then (some false) else (if x199000_26 = 2 then (if (t243.length : Int) = (wrap64 ((x199008_26.length : Int) + 1)) then (wicketgatelaw26_SignalForces.l0 kj58 l1 (l1.length : Int) (wrap64 (x23_1 + 1)) x199000_26 x199001_26 x199002_26 x199003_26 x199004_26 x199005_26 x199006_26 x199007_26 x199008_26 a2_0 a2_1 a2_2 a2_3) else (some false)) else (some false))) else (wicketgatelaw26_SignalForces.l0 kj58 l1 (l1.length : Int) (wrap64 (x23_1 + 1)) x199000_26 x199001_26 x199002_26 x199003_26 x199004_26 x199005_26 x199006_26 x199007_26 x199008_26 a2_0 a2_1 a2_2 a2_3)) = some r := by rw [if_neg (show ¬ (false = true) by decide)] at H; exact H
              clear H
              have H := H1
              clear H1
              by_cases c169 : t247 = true
              ·subst c169
               have H1 : (if x199002_26 = true then (some false) else (if x199000_26 = 2 then (if (t243.length : Int) = (wrap64 ((x199008_26.length : Int) + 1)) then (wicketgatelaw26_SignalForces.l0 kj58 l1 (l1.length : Int) (wrap64 (x23_1 + 1)) x199000_26 x199001_26 x199002_26 x199003_26 x199004_26 x199005_26 x199006_26 x199007_26 x199008_26 a2_0 a2_1 a2_2 a2_3) else (some false)) else (some false))) = some r := by rw [if_pos rfl] at H; exact H
               clear H
               have H := H1
               clear H1
               by_cases c170 : x199002_26 = true
               ·subst c170
                have H1 : (some false) = some r := by rw [if_pos rfl] at H; exact H
                clear H
                have H := H1
                clear H1
                exact absurd ((Option.some.inj H).trans HRr.out) (by simp)
               ·replace c170 := Bool.eq_false_iff.mpr c170
                subst c170
                have H1 : (if x199000_26 = 2 then (if (t243.length : Int) = (wrap64 ((x199008_26.length : Int) + 1)) then (wicketgatelaw26_SignalForces.l0 kj58 l1 (l1.length : Int) (wrap64 (x23_1 + 1)) x199000_26 x199001_26 false x199003_26 x199004_26 x199005_26 x199006_26 x199007_26 x199008_26 a2_0 a2_1 a2_2 a2_3) else (some false)) else (some false)) = some r := by rw [if_neg (show ¬ (false = true) by decide)] at H; exact H
                clear H
                have H := H1
                clear H1
                by_cases c171 : x199000_26 = 2
                ·rw [if_pos c171] at H
                 have c171b0 : (x199000_26 == 2) = true := beq_iff_eq.mpr c171
                 have c171b1 : (x199000_26 != 2) = false := bne_eq_false_iff_eq.mpr c171
                 clear c171
                 by_cases c172 : (t243.length : Int) = (wrap64 ((x199008_26.length : Int) + 1))
                 ·rw [if_pos c172] at H
                  have c172b0 : ((t243.length : Int) == (wrap64 ((x199008_26.length : Int) + 1))) = true := beq_iff_eq.mpr c172
                  have c172b1 : ((t243.length : Int) != (wrap64 ((x199008_26.length : Int) + 1))) = false := bne_eq_false_iff_eq.mpr c172
                  clear c172
                  have H' := Amk_ H
                  clear H
                  have hnb173 := NB254_198.out
                  have hnc173 := NB198_254.out
                  have hnb174 := NB254_199.out
                  have hnc174 := NB199_254.out
                  have hnb175 := NB254_214.out
                  have hnc175 := NB214_254.out
                  have hnb176 := NB254_233.out
                  have hnc176 := NB233_254.out
                  have hnb177 := NB254_234.out
                  have hnc177 := NB234_254.out
                  have hnb178 := NB254_253.out
                  have hnc178 := NB253_254.out
                  have hcz179_0 : wc.cell? ⟨g254, 0, none⟩ = some (.bool t246) := (bkC_ BK254.out 0).trans rfl
                  have hcz179_1 : wc.cell? ⟨g254, 1, none⟩ = some (.bool true) := (bkC_ BK254.out 1).trans rfl
                  have hcz179_2 : wc.cell? ⟨g254, 2, none⟩ = some (.int .i64 t248) := (bkC_ BK254.out 2).trans rfl
                  have hcz179_3 : wc.cell? ⟨g254, 3, none⟩ = some (.int .i64 t249) := (bkC_ BK254.out 3).trans rfl
                  have hcz179_4 : wc.cell? ⟨g254, 4, none⟩ = some (.int .u32 t250) := (bkC_ BK254.out 4).trans rfl
                  have hcz179_5 : wc.cell? ⟨g254, 5, none⟩ = some (.int .u32 t251) := (bkC_ BK254.out 5).trans rfl
                  have hfz179_0 := bkF_ BK254.out 0
                  have hfz179_1 := bkF_ BK254.out 1
                  have hfz179_2 := bkF_ BK254.out 2
                  have hfz179_3 := bkF_ BK254.out 3
                  have hfz179_4 := bkF_ BK254.out 4
                  have hfz179_5 := bkF_ BK254.out 5
                  have hnb180 := NB198_199.out
                  have hnc180 := NB199_198.out
                  have hnb181 := NB198_214.out
                  have hnc181 := NB214_198.out
                  have hnb182 := NB198_233.out
                  have hnc182 := NB233_198.out
                  have hnb183 := NB198_234.out
                  have hnc183 := NB234_198.out
                  have hnb184 := NB198_253.out
                  have hnc184 := NB253_198.out
                  have hcz185_0 : wc.cell? ⟨g198, 0, none⟩ = some (.int .i64 x199000_26) := (bkC_ BK198.out 0).trans rfl
                  have hcz185_1 : wc.cell? ⟨g198, 1, none⟩ = some (.bool x199001_26) := (bkC_ BK198.out 1).trans rfl
                  have hcz185_2 : wc.cell? ⟨g198, 2, none⟩ = some (.bool false) := (bkC_ BK198.out 2).trans rfl
                  have hcz185_3 : wc.cell? ⟨g198, 3, none⟩ = some (.bool x199003_26) := (bkC_ BK198.out 3).trans rfl
                  have hcz185_4 : wc.cell? ⟨g198, 4, none⟩ = some (.int .i64 x199004_26) := (bkC_ BK198.out 4).trans rfl
                  have hcz185_5 : wc.cell? ⟨g198, 5, none⟩ = some (.int .i64 x199005_26) := (bkC_ BK198.out 5).trans rfl
                  have hcz185_6 : wc.cell? ⟨g198, 6, none⟩ = some (.int .u32 x199006_26) := (bkC_ BK198.out 6).trans rfl
                  have hcz185_7 : wc.cell? ⟨g198, 7, none⟩ = some (.int .u32 x199007_26) := (bkC_ BK198.out 7).trans rfl
                  have hcz185_8 : wc.cell? ⟨g198, 8, none⟩ = some (.slice Ao69 x199008_26.length co69) := (bkC_ BK198.out 8).trans rfl
                  have hfz185_0 := bkF_ BK198.out 0
                  have hfz185_1 := bkF_ BK198.out 1
                  have hfz185_2 := bkF_ BK198.out 2
                  have hfz185_3 := bkF_ BK198.out 3
                  have hfz185_4 := bkF_ BK198.out 4
                  have hfz185_5 := bkF_ BK198.out 5
                  have hfz185_6 := bkF_ BK198.out 6
                  have hfz185_7 := bkF_ BK198.out 7
                  have hfz185_8 := bkF_ BK198.out 8
                  have hnb186 := NB253_199.out
                  have hnc186 := NB199_253.out
                  have hnb187 := NB253_214.out
                  have hnc187 := NB214_253.out
                  have hnb188 := NB253_233.out
                  have hnc188 := NB233_253.out
                  have hnb189 := NB253_234.out
                  have hnc189 := NB234_253.out
                  have hcz190_0 : wc.cell? ⟨g253, 0, none⟩ = some (.int .i64 t235) := (bkC_ BK253.out 0).trans rfl
                  have hcz190_1 : wc.cell? ⟨g253, 1, none⟩ = some (.bool t236) := (bkC_ BK253.out 1).trans rfl
                  have hcz190_2 : wc.cell? ⟨g253, 2, none⟩ = some (.bool t237) := (bkC_ BK253.out 2).trans rfl
                  have hcz190_3 : wc.cell? ⟨g253, 3, none⟩ = some (.bool t238) := (bkC_ BK253.out 3).trans rfl
                  have hcz190_4 : wc.cell? ⟨g253, 4, none⟩ = some (.int .i64 t239) := (bkC_ BK253.out 4).trans rfl
                  have hcz190_5 : wc.cell? ⟨g253, 5, none⟩ = some (.int .i64 t240) := (bkC_ BK253.out 5).trans rfl
                  have hcz190_6 : wc.cell? ⟨g253, 6, none⟩ = some (.int .u32 t241) := (bkC_ BK253.out 6).trans rfl
                  have hcz190_7 : wc.cell? ⟨g253, 7, none⟩ = some (.int .u32 t242) := (bkC_ BK253.out 7).trans rfl
                  have hcz190_8 : wc.cell? ⟨g253, 8, none⟩ = some (.slice Ao80 t243.length co80) := (bkC_ BK253.out 8).trans rfl
                  have hfz190_0 := bkF_ BK253.out 0
                  have hfz190_1 := bkF_ BK253.out 1
                  have hfz190_2 := bkF_ BK253.out 2
                  have hfz190_3 := bkF_ BK253.out 3
                  have hfz190_4 := bkF_ BK253.out 4
                  have hfz190_5 := bkF_ BK253.out 5
                  have hfz190_6 := bkF_ BK253.out 6
                  have hfz190_7 := bkF_ BK253.out 7
                  have hfz190_8 := bkF_ BK253.out 8
                  go_wp2
                  go_roundg kj58
                  case measure => have := HK1.out; have := HJ26.out; have := HJ58.out; omega
                  case rel => exact ⟨(wrap64 (x23_1 + 1)), (x199000_26), (x199001_26), (false), (x199003_26), (x199004_26), (x199005_26), (x199006_26), (x199007_26), (x199008_26), (.slice Ao69 x199008_26.length co69), (by first | rfl | (simp; done) | (simp [*]; done)), H', ⟨by have := HK1.out; have := HJ26.out; have := HJ58.out; omega⟩, ⟨by (with_reducible repeat (first | apply Kd.R_alloc | apply Kd.R_drewN | apply Kd.R_drew)); exact Kd.R_mono HO_199008.out (fun _ hk => trivial)⟩, ⟨by (with_reducible repeat (first | refine bkN_ ?_ _ | refine bkD_ ?_ | refine bkA_ ?_ _)); exact BK198.out⟩, ⟨by (with_reducible repeat (first | refine bkN_ ?_ _ | refine bkD_ ?_ | refine bkA_ ?_ _)); exact BK199.out⟩, ⟨by repeat (first | (with_reducible first | exact HB.out | apply blA_ | apply pbN_ | apply blD_ | refine blS_ ?_ GE198.out | refine blS_ ?_ GE199.out | refine blS_ ?_ GE214.out | refine blS_ ?_ GE233.out | refine blS_ ?_ GE234.out | refine blS_ ?_ GE253.out | refine blS_ ?_ GE254.out) | exact HB.out)⟩⟩
                 ·rw [if_neg c172] at H
                  have c172b0 : ((t243.length : Int) == (wrap64 ((x199008_26.length : Int) + 1))) = false := beq_eq_false_iff_ne.mpr c172
                  have c172b1 : ((t243.length : Int) != (wrap64 ((x199008_26.length : Int) + 1))) = true := bne_iff_ne.mpr c172
                  exact absurd ((Option.some.inj H).trans HRr.out) (by simp)
                ·rw [if_neg c171] at H
                 have c171b0 : (x199000_26 == 2) = false := beq_eq_false_iff_ne.mpr c171
                 have c171b1 : (x199000_26 != 2) = true := bne_iff_ne.mpr c171
                 exact absurd ((Option.some.inj H).trans HRr.out) (by simp)
              ·replace c169 := Bool.eq_false_iff.mpr c169
               subst c169
               have H1 : (wicketgatelaw26_SignalForces.l0 kj58 l1 (l1.length : Int) (wrap64 (x23_1 + 1)) x199000_26 x199001_26 x199002_26 x199003_26 x199004_26 x199005_26 x199006_26 x199007_26 x199008_26 a2_0 a2_1 a2_2 a2_3) = some r := by rw [if_neg (show ¬ (false = true) by decide)] at H; exact H
               clear H
               have H := H1
               clear H1
               have H' := Amk_ H
               clear H
               have hnb191 := NB254_198.out
               have hnc191 := NB198_254.out
               have hnb192 := NB254_199.out
               have hnc192 := NB199_254.out
               have hnb193 := NB254_214.out
               have hnc193 := NB214_254.out
               have hnb194 := NB254_233.out
               have hnc194 := NB233_254.out
               have hnb195 := NB254_234.out
               have hnc195 := NB234_254.out
               have hnb196 := NB254_253.out
               have hnc196 := NB253_254.out
               have hcz197_0 : wc.cell? ⟨g254, 0, none⟩ = some (.bool t246) := (bkC_ BK254.out 0).trans rfl
               have hcz197_1 : wc.cell? ⟨g254, 1, none⟩ = some (.bool false) := (bkC_ BK254.out 1).trans rfl
               have hcz197_2 : wc.cell? ⟨g254, 2, none⟩ = some (.int .i64 t248) := (bkC_ BK254.out 2).trans rfl
               have hcz197_3 : wc.cell? ⟨g254, 3, none⟩ = some (.int .i64 t249) := (bkC_ BK254.out 3).trans rfl
               have hcz197_4 : wc.cell? ⟨g254, 4, none⟩ = some (.int .u32 t250) := (bkC_ BK254.out 4).trans rfl
               have hcz197_5 : wc.cell? ⟨g254, 5, none⟩ = some (.int .u32 t251) := (bkC_ BK254.out 5).trans rfl
               have hfz197_0 := bkF_ BK254.out 0
               have hfz197_1 := bkF_ BK254.out 1
               have hfz197_2 := bkF_ BK254.out 2
               have hfz197_3 := bkF_ BK254.out 3
               have hfz197_4 := bkF_ BK254.out 4
               have hfz197_5 := bkF_ BK254.out 5
               go_wp2
               go_roundg kj58
               case measure => have := HK1.out; have := HJ26.out; have := HJ58.out; omega
               case rel => exact ⟨(wrap64 (x23_1 + 1)), (x199000_26), (x199001_26), (x199002_26), (x199003_26), (x199004_26), (x199005_26), (x199006_26), (x199007_26), (x199008_26), (.slice Ao69 x199008_26.length co69), (by first | rfl | (simp; done) | (simp [*]; done)), H', ⟨by have := HK1.out; have := HJ26.out; have := HJ58.out; omega⟩, ⟨by (with_reducible repeat (first | apply Kd.R_alloc | apply Kd.R_drewN | apply Kd.R_drew)); exact Kd.R_mono HO_199008.out (fun _ hk => trivial)⟩, ⟨by (with_reducible repeat (first | refine bkN_ ?_ _ | refine bkD_ ?_ | refine bkA_ ?_ _)); exact BK198.out⟩, ⟨by (with_reducible repeat (first | refine bkN_ ?_ _ | refine bkD_ ?_ | refine bkA_ ?_ _)); exact BK199.out⟩, ⟨by repeat (first | (with_reducible first | exact HB.out | apply blA_ | apply pbN_ | apply blD_ | refine blS_ ?_ GE198.out | refine blS_ ?_ GE199.out | refine blS_ ?_ GE214.out | refine blS_ ?_ GE233.out | refine blS_ ?_ GE234.out | refine blS_ ?_ GE253.out | refine blS_ ?_ GE254.out) | exact HB.out)⟩⟩
       ·rw [if_neg c20] at H
        exact absurd H (by simp)
      ·rw [if_neg c19] at H
       exact absurd H (by simp)
     ·rw [if_neg c18] at H
      have c18b0 : decide (x23_1 < (l1.length : Int)) = false := decide_eq_false c18
      clear c18
      obtain rfl := Option.some.inj H
      go_wp2
      go_ret
      exact ⟨by first | rfl | (simp [errW_none, errW_some] <;> rfl) | (simp [*, errW_none, errW_some] <;> rfl), by repeat (first | (with_reducible first | exact HB.out | apply blA_ | apply pbN_ | apply blD_ | refine blS_ ?_ GE198.out | refine blS_ ?_ GE199.out) | exact HB.out)⟩
  ·rw [if_neg c8] at H
   have c8b0 : (t212 == 0) = false := beq_eq_false_iff_ne.mpr c8
   have c8b1 : (t212 != 0) = true := bne_iff_ne.mpr c8
   obtain rfl := Option.some.inj H
   go_enter Try.func5, Try.ntmps5
   go_wp2_with (first | ((with_reducible refine gate_dst (N := 3) rfl ?_); (try (refine gate_guard (by rfl) ?_; dsimp only)); refine box_event ?hg (N := 3) ?hd (cs := #[.int .i64 a0_0, .bool a0_1, .bool a0_2, .bool a0_3, .int .i64 a0_4, .int .i64 a0_5, .int .u32 a0_6, .int .u32 a0_7, .slice A0_8 l0_8.length c0_8]) (t := 27) ?hr ?_; (case hd => rfl); (case hg => rfl); (case hr => first | (go_simp; done) | (go_simp; rfl)); intro g198 hg w198 hbox hb; have n0_ := Amk_ (blP_ (by repeat (first | (with_reducible first | exact HB.out | apply blA_ | apply pbN_ | apply blD_) | exact HB.out)) hb); have n1_ := Amk_ (hbox); have n2_ := Amk_ ((by rw [hg]; exact (blZ_ (by repeat (first | (with_reducible first | exact HB.out | apply blA_ | apply pbN_ | apply blD_) | exact HB.out))) : w.heap.size ≤ g198)); have n3_ := Amk_ ((by rw [hg]; exact (blZ_ (by repeat (first | (with_reducible first | exact HB.out | apply blA_ | apply pbN_ | apply blD_) | exact HB.out))) : w.heap.size ≤ g198)); clear HB; have HB := n0_; have BK198 := n1_; have GW198 := n2_; have GE198 := n3_; clear n0_ n1_ n2_ n3_; clear hb hbox hg) | ((with_reducible refine gate_dst (N := 5) rfl ?_); (try (refine gate_guard (by rfl) ?_; dsimp only)); refine box_event ?hg (N := 5) ?hd (cs := #[.int .i64 a2_0, .int .i64 a2_1, .int .u32 a2_2, .int .u32 a2_3]) (t := 24) ?hr ?_; (case hd => rfl); (case hg => rfl); (case hr => first | (go_simp; done) | (go_simp; rfl)); intro g199 hg w199 hbox hb; have n0_ := Amk_ (bkB_ (g := g198) (o := .cells #[.int .i64 a0_0, .bool a0_1, .bool a0_2, .bool a0_3, .int .i64 a0_4, .int .i64 a0_5, .int .u32 a0_6, .int .u32 a0_7, .slice A0_8 l0_8.length c0_8] 27 (0, 0)) (by (with_reducible repeat (first | refine bkN_ ?_ _ | refine bkD_ ?_ | refine bkA_ ?_ _)); exact BK198.out) hb); have n1_ := Amk_ (blP_ (by repeat (first | (with_reducible first | exact HB.out | apply blA_ | apply pbN_ | apply blD_ | refine blS_ ?_ GE198.out) | exact HB.out)) hb); have n2_ := Amk_ (hbox); have n3_ := Amk_ ((by rw [hg]; exact (blZ_ (by repeat (first | (with_reducible first | exact HB.out | apply blA_ | apply pbN_ | apply blD_ | refine blS_ ?_ GE198.out) | exact HB.out))) : w.heap.size ≤ g199)); have n4_ := Amk_ ((by rw [hg]; exact (blZ_ (by repeat (first | (with_reducible first | exact HB.out | apply blA_ | apply pbN_ | apply blD_ | refine blS_ ?_ GE198.out) | exact HB.out))) : w.heap.size ≤ g199)); have n5_ := Amk_ ((by rw [hg]; exact Nat.ne_of_lt (blk_lt (g := g198) (o := .cells #[.int .i64 a0_0, .bool a0_1, .bool a0_2, .bool a0_3, .int .i64 a0_4, .int .i64 a0_5, .int .u32 a0_6, .int .u32 a0_7, .slice A0_8 l0_8.length c0_8] 27 (0, 0)) (by (with_reducible repeat (first | refine bkN_ ?_ _ | refine bkD_ ?_ | refine bkA_ ?_ _)); exact BK198.out)) : g198 ≠ g199)); have n6_ := Amk_ ((by rw [hg]; exact Nat.ne_of_gt (blk_lt (g := g198) (o := .cells #[.int .i64 a0_0, .bool a0_1, .bool a0_2, .bool a0_3, .int .i64 a0_4, .int .i64 a0_5, .int .u32 a0_6, .int .u32 a0_7, .slice A0_8 l0_8.length c0_8] 27 (0, 0)) (by (with_reducible repeat (first | refine bkN_ ?_ _ | refine bkD_ ?_ | refine bkA_ ?_ _)); exact BK198.out)) : g199 ≠ g198)); clear BK198; clear HB; have BK198 := n0_; have HB := n1_; have BK199 := n2_; have GW199 := n3_; have GE199 := n4_; have NB198_199 := n5_; have NB199_198 := n6_; clear n0_ n1_ n2_ n3_ n4_ n5_ n6_; clear hb hbox hg) | ((with_reducible refine gate_callee (f := 6) rfl ?_); refine goesL_ (some 14) rfl rfl Try.func6 (by kernel_rfl) rfl #[] rfl (by (try simp only [List.map_toArray, List.map_cons, List.map_nil]); first | done | rfl | (simp only [List.length_drop, List.length_take]; rfl)) ?_; (with_reducible refine (wicketgatelaw26_wakes.calls  true _ A4.out).mono ?_); rintro e w200 ⟨rfl, hb⟩; refine ⟨_, rfl, ?_⟩; have n0_ := Amk_ (bkB_ (g := g198) (o := .cells #[.int .i64 a0_0, .bool a0_1, .bool a0_2, .bool a0_3, .int .i64 a0_4, .int .i64 a0_5, .int .u32 a0_6, .int .u32 a0_7, .slice A0_8 l0_8.length c0_8] 27 (0, 0)) (by (with_reducible repeat (first | refine bkN_ ?_ _ | refine bkD_ ?_ | refine bkA_ ?_ _)); exact BK198.out) hb); have n1_ := Amk_ (bkB_ (g := g199) (o := .cells #[.int .i64 a2_0, .int .i64 a2_1, .int .u32 a2_2, .int .u32 a2_3] 24 (0, 0)) (by (with_reducible repeat (first | refine bkN_ ?_ _ | refine bkD_ ?_ | refine bkA_ ?_ _)); exact BK199.out) hb); have n2_ := Amk_ (blP_ (by repeat (first | (with_reducible first | exact HB.out | apply blA_ | apply pbN_ | apply blD_ | refine blS_ ?_ GE198.out | refine blS_ ?_ GE199.out) | exact HB.out)) hb); clear BK198; clear BK199; clear HB; have BK198 := n0_; have BK199 := n1_; have HB := n2_; clear n0_ n1_ n2_; (try clear hb); (try clear hb2); (try clear hk); (try clear hi); have hnb201 := NB198_199.out; have hnc201 := NB199_198.out; have hcz202_0 : w200.cell? ⟨g198, 0, none⟩ = some (.int .i64 a0_0) := (bkC_ BK198.out 0).trans rfl; have hcz202_1 : w200.cell? ⟨g198, 1, none⟩ = some (.bool a0_1) := (bkC_ BK198.out 1).trans rfl; have hcz202_2 : w200.cell? ⟨g198, 2, none⟩ = some (.bool a0_2) := (bkC_ BK198.out 2).trans rfl; have hcz202_3 : w200.cell? ⟨g198, 3, none⟩ = some (.bool a0_3) := (bkC_ BK198.out 3).trans rfl; have hcz202_4 : w200.cell? ⟨g198, 4, none⟩ = some (.int .i64 a0_4) := (bkC_ BK198.out 4).trans rfl; have hcz202_5 : w200.cell? ⟨g198, 5, none⟩ = some (.int .i64 a0_5) := (bkC_ BK198.out 5).trans rfl; have hcz202_6 : w200.cell? ⟨g198, 6, none⟩ = some (.int .u32 a0_6) := (bkC_ BK198.out 6).trans rfl; have hcz202_7 : w200.cell? ⟨g198, 7, none⟩ = some (.int .u32 a0_7) := (bkC_ BK198.out 7).trans rfl; have hcz202_8 : w200.cell? ⟨g198, 8, none⟩ = some (.slice A0_8 l0_8.length c0_8) := (bkC_ BK198.out 8).trans rfl; have hfz202_0 := bkF_ BK198.out 0; have hfz202_1 := bkF_ BK198.out 1; have hfz202_2 := bkF_ BK198.out 2; have hfz202_3 := bkF_ BK198.out 3; have hfz202_4 := bkF_ BK198.out 4; have hfz202_5 := bkF_ BK198.out 5; have hfz202_6 := bkF_ BK198.out 6; have hfz202_7 := bkF_ BK198.out 7; have hfz202_8 := bkF_ BK198.out 8) | ((with_reducible refine gate_callee (f := 7) rfl ?_); refine goesL_ (some 17) rfl rfl Try.func7 (by kernel_rfl) rfl #[.agg #[.int .i64 a0_0, .bool a0_1, .bool a0_2, .bool a0_3, .int .i64 a0_4, .int .i64 a0_5, .int .u32 a0_6, .int .u32 a0_7, .slice A0_8 l0_8.length c0_8]] rfl (by (try simp only [List.map_toArray, List.map_cons, List.map_nil]); first | done | rfl | (simp only [List.length_drop, List.length_take]; rfl)) ?_; (with_reducible refine (wicketgatelaw26_short.calls a0_0 a0_1 a0_2 a0_3 a0_4 a0_5 a0_6 a0_7 _ _ l0_8 t201 t202 t203 t204 t205 t206 t207 t208 t209 _ ?side1 ?side2 A6.out).mono ?_); (case side1 => repeat (first | exact (Kd.C_below HR0_8.out HB.out) | (with_reducible refine Kd.C_alloc ?_ _) | (with_reducible refine Kd.C_drewN ?_ _) | (with_reducible refine Kd.C_drew ?_))); (case side2 => exact HC0_8.out); rintro e w203 ⟨v210, rfl, ho0, hb⟩; refine ⟨_, rfl, ?_⟩; have n0_ := Amk_ (Kd.R_lower ho0 (blZ_ (by repeat (first | (with_reducible first | exact HB.out | apply blA_ | apply pbN_ | apply blD_ | refine blS_ ?_ GE198.out | refine blS_ ?_ GE199.out) | exact HB.out)))); have n1_ := Amk_ (bkB_ (g := g198) (o := .cells #[.int .i64 a0_0, .bool a0_1, .bool a0_2, .bool a0_3, .int .i64 a0_4, .int .i64 a0_5, .int .u32 a0_6, .int .u32 a0_7, .slice A0_8 l0_8.length c0_8] 27 (0, 0)) (by (with_reducible repeat (first | refine bkN_ ?_ _ | refine bkD_ ?_ | refine bkA_ ?_ _)); exact BK198.out) hb); have n2_ := Amk_ (bkB_ (g := g199) (o := .cells #[.int .i64 a2_0, .int .i64 a2_1, .int .u32 a2_2, .int .u32 a2_3] 24 (0, 0)) (by (with_reducible repeat (first | refine bkN_ ?_ _ | refine bkD_ ?_ | refine bkA_ ?_ _)); exact BK199.out) hb); have n3_ := Amk_ (blP_ (by repeat (first | (with_reducible first | exact HB.out | apply blA_ | apply pbN_ | apply blD_ | refine blS_ ?_ GE198.out | refine blS_ ?_ GE199.out) | exact HB.out)) hb); clear BK198; clear BK199; clear HB; have HO211 := n0_; have BK198 := n1_; have BK199 := n2_; have HB := n3_; clear n0_ n1_ n2_ n3_; (try clear hb); (try clear hb2); (try clear hk); (try clear hi); (try clear ho0); have hcz204_0 : w203.cell? ⟨g198, 0, none⟩ = some (.int .i64 a0_0) := (bkC_ BK198.out 0).trans rfl; have hcz204_1 : w203.cell? ⟨g198, 1, none⟩ = some (.bool a0_1) := (bkC_ BK198.out 1).trans rfl; have hcz204_2 : w203.cell? ⟨g198, 2, none⟩ = some (.bool a0_2) := (bkC_ BK198.out 2).trans rfl; have hcz204_3 : w203.cell? ⟨g198, 3, none⟩ = some (.bool a0_3) := (bkC_ BK198.out 3).trans rfl; have hcz204_4 : w203.cell? ⟨g198, 4, none⟩ = some (.int .i64 a0_4) := (bkC_ BK198.out 4).trans rfl; have hcz204_5 : w203.cell? ⟨g198, 5, none⟩ = some (.int .i64 a0_5) := (bkC_ BK198.out 5).trans rfl; have hcz204_6 : w203.cell? ⟨g198, 6, none⟩ = some (.int .u32 a0_6) := (bkC_ BK198.out 6).trans rfl; have hcz204_7 : w203.cell? ⟨g198, 7, none⟩ = some (.int .u32 a0_7) := (bkC_ BK198.out 7).trans rfl; have hcz204_8 : w203.cell? ⟨g198, 8, none⟩ = some (.slice A0_8 l0_8.length c0_8) := (bkC_ BK198.out 8).trans rfl; have hfz204_0 := bkF_ BK198.out 0; have hfz204_1 := bkF_ BK198.out 1; have hfz204_2 := bkF_ BK198.out 2; have hfz204_3 := bkF_ BK198.out 3; have hfz204_4 := bkF_ BK198.out 4; have hfz204_5 := bkF_ BK198.out 5; have hfz204_6 := bkF_ BK198.out 6; have hfz204_7 := bkF_ BK198.out 7; have hfz204_8 := bkF_ BK198.out 8; obtain ⟨Ao205, co205, eo205⟩ := Kd.R_slice HO211.out; subst eo205) | ((with_reducible refine gate_callee (f := 8) rfl ?_); refine goesL_ (some 19) rfl rfl Try.func8 (by kernel_rfl) rfl #[.agg #[.int .i64 t201, .bool t202, .bool t203, .bool t204, .int .i64 t205, .int .i64 t206, .int .u32 t207, .int .u32 t208, .slice Ao205 t209.length co205]] rfl (by (try simp only [List.map_toArray, List.map_cons, List.map_nil]); first | done | rfl | (simp only [List.length_drop, List.length_take]; rfl)) ?_; (with_reducible refine (signal_Check.calls k t201 t202 t203 t204 t205 t206 t207 t208 _ _ t209 t212 _ ?side1 ?side2 A7.out).mono ?_); (case side1 => refine (Kd.R_reads' (e := 4) (base := w.heap.size) (ok := fun k_ => True) (n := t209.length) (c := co205) ?_).2.2; exact (by (with_reducible repeat (first | apply Kd.R_alloc | apply Kd.R_drewN | apply Kd.R_drew)); exact (Kd.R_mono (RF9_ (g := g198) (Kd.R_types HO211.out BK198.out (by decide)) (fun _ hk => hk.2) _ _ _ _ _ _ _ _ _) (fun _ h_ => h_.1)))); (case side2 => exact (Kd.R_reads' HO211.out).2.1); rintro e w206 ⟨rfl, hb⟩; refine ⟨_, rfl, ?_⟩; have n0_ := Amk_ (Kd.R_below (by (with_reducible repeat (first | apply Kd.R_alloc | apply Kd.R_drewN | apply Kd.R_drew)); exact (Kd.R_mono (RF9_ (g := g198) (Kd.R_types HO211.out BK198.out (by decide)) (fun _ hk => hk.2) _ _ _ _ _ _ _ _ _) (fun _ h_ => h_.1))) hb); have n1_ := Amk_ (bkB_ (g := g198) (o := .cells #[.int .i64 t201, .bool t202, .bool t203, .bool t204, .int .i64 t205, .int .i64 t206, .int .u32 t207, .int .u32 t208, .slice Ao205 t209.length co205] 27 (0, 0)) (by (with_reducible repeat (first | refine bkN_ ?_ _ | refine bkD_ ?_ | refine bkA_ ?_ _)); apply PT9_; (with_reducible repeat (first | refine bkN_ ?_ _ | refine bkD_ ?_ | refine bkA_ ?_ _)); exact BK198.out) hb); have n2_ := Amk_ (bkB_ (g := g199) (o := .cells #[.int .i64 a2_0, .int .i64 a2_1, .int .u32 a2_2, .int .u32 a2_3] 24 (0, 0)) (by (with_reducible repeat (first | refine bkN_ ?_ _ | refine bkD_ ?_ | refine bkA_ ?_ _)); (iterate 9 (refine blk_far ?_ NB199_198.out _; (with_reducible repeat (first | refine bkN_ ?_ _ | refine bkD_ ?_ | refine bkA_ ?_ _)))); exact BK199.out) hb); have n3_ := Amk_ (blP_ (by repeat (first | (with_reducible first | exact HB.out | apply blA_ | apply pbN_ | apply blD_ | refine blS_ ?_ GE198.out | refine blS_ ?_ GE199.out) | exact HB.out)) hb); clear HO211; clear BK198; clear BK199; clear HB; have HO211 := n0_; have BK198 := n1_; have BK199 := n2_; have HB := n3_; clear n0_ n1_ n2_ n3_; (try clear hb); (try clear hb2); (try clear hk); (try clear hi)))
   go_ret
   exact ⟨by first | rfl | (simp [errW_none, errW_some] <;> rfl) | (simp [*, errW_none, errW_some] <;> rfl), by repeat (first | (with_reducible first | exact HB.out | apply blA_ | apply pbN_ | apply blD_ | refine blS_ ?_ GE198.out | refine blS_ ?_ GE199.out) | exact HB.out)⟩
 ·replace c5 := Bool.eq_false_iff.mpr c5
  subst c5
  have H1 : (some false) = some r := by rw [if_neg (show ¬ (false = true) by decide)] at H; exact H
  clear H
  have H := H1
  clear H1
  exact absurd ((Option.some.inj H).trans HRr.out) (by simp)

end Go.Proofs.Ytbpgpbbpeppjmaa.PE
