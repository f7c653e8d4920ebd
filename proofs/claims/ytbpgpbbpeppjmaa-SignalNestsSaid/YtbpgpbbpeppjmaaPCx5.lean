-- printed by wip/tools/xprint.py (a program of this repo's over the kit's print)
import Derived.Test.YtbpgpbbpeppjmaaPCx0
import Derived.Test.YtbpgpbbpeppjmaaPCx1
import Derived.Test.YtbpgpbbpeppjmaaPCx2
import Derived.Test.YtbpgpbbpeppjmaaPCx3
import Derived.Test.YtbpgpbbpeppjmaaPCx4
namespace Go.Proofs.Ytbpgpbbpeppjmaa.PC
open Go.RowKit Go.Proofs.YtbpgpbbpeppjmaaW.PrintWords Go.Proofs.YtbpgpbbpeppjmaaW.PrintLast Go.Proofs.YtbpgpbbpeppjmaaW.PrintMore
attribute [local go_sem] max2_int min2_int max_two min_two max_three min_three max_four min_four   -- for this text's walks alone
set_option linter.unusedVariables false
set_option linter.unusedSimpArgs false

attribute [local go_sem high] eqA24 eqA33
/-! ### wicketgatelaw26_SignalNests: function 4 -/
mutual
def wicketgatelaw26_SignalNests.j2 : Nat → List (S27) → Int → Bool → Bool → Bool → Int → Int → Int → Int → List Bool → Option (Bool)
 | 0, _, _, _, _, _, _, _, _, _, _ => none
 | k + 1, x7, x333000, x333001, x333002, x333003, x333004, x333005, x333006, x333007, x333008 => wicketgatelaw26_SignalNests.l1 k x7 x333000 x333001 x333002 x333003 x333004 x333005 x333006 x333007 x333008
def wicketgatelaw26_SignalNests.l1 : Nat → List (S27) → Int → Bool → Bool → Bool → Int → Int → Int → Int → List Bool → Option (Bool)
 | 0, _, _, _, _, _, _, _, _, _, _ => none
 | k + 1, x7, x333000, x333001, x333002, x333003, x333004, x333005, x333006, x333007, x333008 => if (x7.length : Int) > 0 then ((signal_Return.f x333000 x333001 x333002 x333003 x333004 x333005 x333006 x333007 x333008).bind fun bt379 => (if bt379.2.2.2.2.2.2.2.2.2.2.2.2.2.2.2 = 0 then (if (bt379.2.2.2.2.2.2.2.2.2.1 || (bt379.2.2.2.2.2.2.2.2.2.2.1 || ((!(bt379.2.2.2.2.2.2.2.2.2.2.2.1 == 0) || (!(bt379.2.2.2.2.2.2.2.2.2.2.2.2.1 == 0) || (!(bt379.2.2.2.2.2.2.2.2.2.2.2.2.2.1 == 0) || (!(bt379.2.2.2.2.2.2.2.2.2.2.2.2.2.2.1 == 0)))))))) = true then (some false) else (if 0 ≤ (wrap64 ((x7.length : Int) - 1)) then (if (wrap64 ((x7.length : Int) - 1)) < (x7.length : Int) then ((signal_Same.f k bt379.1 bt379.2.1 bt379.2.2.1 bt379.2.2.2.1 bt379.2.2.2.2.1 bt379.2.2.2.2.2.1 bt379.2.2.2.2.2.2.1 bt379.2.2.2.2.2.2.2.1 bt379.2.2.2.2.2.2.2.2.1 ((rd_T27 x7 (wrap64 ((x7.length : Int) - 1))).f0) ((rd_T27 x7 (wrap64 ((x7.length : Int) - 1))).f1) ((rd_T27 x7 (wrap64 ((x7.length : Int) - 1))).f2) ((rd_T27 x7 (wrap64 ((x7.length : Int) - 1))).f3) ((rd_T27 x7 (wrap64 ((x7.length : Int) - 1))).f4.f0) ((rd_T27 x7 (wrap64 ((x7.length : Int) - 1))).f4.f1) ((rd_T27 x7 (wrap64 ((x7.length : Int) - 1))).f4.f2) ((rd_T27 x7 (wrap64 ((x7.length : Int) - 1))).f4.f3) ((rd_T27 x7 (wrap64 ((x7.length : Int) - 1))).f5)).bind fun t400 => (if t400 = true then (if (wrap64 ((x7.length : Int) - 1)) ≤ (x7.length : Int) then (wicketgatelaw26_SignalNests.l1 k (x7.take ((wrap64 ((x7.length : Int) - 1)) : Int).toNat) bt379.1 bt379.2.1 bt379.2.2.1 bt379.2.2.2.1 bt379.2.2.2.2.1 bt379.2.2.2.2.2.1 bt379.2.2.2.2.2.2.1 bt379.2.2.2.2.2.2.2.1 bt379.2.2.2.2.2.2.2.2.1) else (none)) else (some false))) else (none)) else (none))) else (some false))) else ((signal_Return.f x333000 x333001 x333002 x333003 x333004 x333005 x333006 x333007 x333008).bind fun bt361 => (some (bt361.2.2.2.2.2.2.2.2.2.2.2.2.2.2.2 == 4)))
def wicketgatelaw26_SignalNests.l0 : Nat → Bool → List (S27) → List (S24) → Int → Int → Int → Bool → Bool → Bool → Int → Int → Int → Int → List Bool → Option (Bool)
 | 0, _, _, _, _, _, _, _, _, _, _, _, _, _, _ => none
 | k + 1, x0, x7, x27, x28, x29, x333000, x333001, x333002, x333003, x333004, x333005, x333006, x333007, x333008 => if x29 < x28 then (if 0 ≤ x29 then (if x29 < (x27.length : Int) then (if x29 = 4 then (wicketgatelaw26_SignalNests.j1 k x0 x7 x27 x28 x29 true x333000 x333001 x333002 x333003 x333004 x333005 x333006 x333007 x333008 ((rd_T24 x27 x29).f0) ((rd_T24 x27 x29).f1) ((rd_T24 x27 x29).f2) ((rd_T24 x27 x29).f3)) else (if x29 = 1 then (wicketgatelaw26_SignalNests.j1 k x0 x7 x27 x28 x29 (!x0) x333000 x333001 x333002 x333003 x333004 x333005 x333006 x333007 x333008 ((rd_T24 x27 x29).f0) ((rd_T24 x27 x29).f1) ((rd_T24 x27 x29).f2) ((rd_T24 x27 x29).f3)) else (wicketgatelaw26_SignalNests.j1 k x0 x7 x27 x28 x29 false x333000 x333001 x333002 x333003 x333004 x333005 x333006 x333007 x333008 ((rd_T24 x27 x29).f0) ((rd_T24 x27 x29).f1) ((rd_T24 x27 x29).f2) ((rd_T24 x27 x29).f3)))) else (none)) else (none)) else (wicketgatelaw26_SignalNests.j2 k x7 x333000 x333001 x333002 x333003 x333004 x333005 x333006 x333007 x333008)
def wicketgatelaw26_SignalNests.j1 : Nat → Bool → List (S27) → List (S24) → Int → Int → Bool → Int → Bool → Bool → Bool → Int → Int → Int → Int → List Bool → Int → Int → Int → Int → Option (Bool)
 | 0, _, _, _, _, _, _, _, _, _, _, _, _, _, _, _, _, _, _, _ => none
 | k + 1, x0, x7, x27, x28, x29, x43, x333000, x333001, x333002, x333003, x333004, x333005, x333006, x333007, x333008, x338000, x338001, x338002, x338003 => if x43 = true then (wicketgatelaw26_SignalNests.j2 k x7 x333000 x333001 x333002 x333003 x333004 x333005 x333006 x333007 x333008) else ((signal_Force.f x333000 x333001 x333002 x333003 x333004 x333005 x333006 x333007 x333008 x338000 x338001 x338002 x338003).bind fun bt338 => (if bt338.2.2.2.2.2.2.2.2.2.2.2.2.2.2.2 = 0 then (if bt338.2.2.2.2.2.2.2.2.2.2.1 = true then (if (!(bt338.2.2.2.2.2.2.2.2.2.2.2.1 == x338000) || (!(bt338.2.2.2.2.2.2.2.2.2.2.2.2.1 == x338001) || (!(bt338.2.2.2.2.2.2.2.2.2.2.2.2.2.1 == x338002) || (!(bt338.2.2.2.2.2.2.2.2.2.2.2.2.2.2.1 == x338003))))) = true then (some false) else (if x7.length < 2199023255552 then (wicketgatelaw26_SignalNests.l0 k x0 (x7 ++ [(⟨x333000, x333001, x333002, x333003, (⟨x333004, x333005, x333006, x333007⟩ : S24), x333008⟩ : S27)]) x27 x28 (wrap64 (x29 + 1)) bt338.1 bt338.2.1 bt338.2.2.1 bt338.2.2.2.1 bt338.2.2.2.2.1 bt338.2.2.2.2.2.1 bt338.2.2.2.2.2.2.1 bt338.2.2.2.2.2.2.2.1 bt338.2.2.2.2.2.2.2.2.1) else (none))) else (some false)) else (some false)))
end
def wicketgatelaw26_SignalNests.f (k : Nat) (a0 : Bool) (l1 : List (S24)) : Option (Bool) := (wicketgatelaw26_wakes.f).bind fun t319 => (if t319 = true then ((signal_Set.f 0 false false false 0 0 0 0 ([] : List Bool) 2 a0).bind fun bt320 => (if bt320.2.2.2.2.2.2.2.2.2 = 0 then (wicketgatelaw26_SignalNests.l0 k a0 (([] : List (S27))) l1 (l1.length : Int) 0 bt320.1 bt320.2.1 bt320.2.2.1 bt320.2.2.2.1 bt320.2.2.2.2.1 bt320.2.2.2.2.2.1 bt320.2.2.2.2.2.2.1 bt320.2.2.2.2.2.2.2.1 bt320.2.2.2.2.2.2.2.2.1) else (some false))) else (some false))
theorem wicketgatelaw26_SignalNests.mono_l : ∀ k, (∀ y0 y1 y2 y3 y4 y5 y6 y7 y8 y9, LeO (wicketgatelaw26_SignalNests.j2 k y0 y1 y2 y3 y4 y5 y6 y7 y8 y9) (wicketgatelaw26_SignalNests.j2 (k + 1) y0 y1 y2 y3 y4 y5 y6 y7 y8 y9)) ∧ (∀ y0 y1 y2 y3 y4 y5 y6 y7 y8 y9, LeO (wicketgatelaw26_SignalNests.l1 k y0 y1 y2 y3 y4 y5 y6 y7 y8 y9) (wicketgatelaw26_SignalNests.l1 (k + 1) y0 y1 y2 y3 y4 y5 y6 y7 y8 y9)) ∧ (∀ y0 y1 y2 y3 y4 y5 y6 y7 y8 y9 y10 y11 y12 y13, LeO (wicketgatelaw26_SignalNests.l0 k y0 y1 y2 y3 y4 y5 y6 y7 y8 y9 y10 y11 y12 y13) (wicketgatelaw26_SignalNests.l0 (k + 1) y0 y1 y2 y3 y4 y5 y6 y7 y8 y9 y10 y11 y12 y13)) ∧ (∀ y0 y1 y2 y3 y4 y5 y6 y7 y8 y9 y10 y11 y12 y13 y14 y15 y16 y17 y18, LeO (wicketgatelaw26_SignalNests.j1 k y0 y1 y2 y3 y4 y5 y6 y7 y8 y9 y10 y11 y12 y13 y14 y15 y16 y17 y18) (wicketgatelaw26_SignalNests.j1 (k + 1) y0 y1 y2 y3 y4 y5 y6 y7 y8 y9 y10 y11 y12 y13 y14 y15 y16 y17 y18))
 | 0 => ⟨fun _ _ _ _ _ _ _ _ _ _ r h => by simp [wicketgatelaw26_SignalNests.j2] at h, fun _ _ _ _ _ _ _ _ _ _ r h => by simp [wicketgatelaw26_SignalNests.l1] at h, fun _ _ _ _ _ _ _ _ _ _ _ _ _ _ r h => by simp [wicketgatelaw26_SignalNests.l0] at h, fun _ _ _ _ _ _ _ _ _ _ _ _ _ _ _ _ _ _ _ r h => by simp [wicketgatelaw26_SignalNests.j1] at h⟩
 | k + 1 => by
  obtain ⟨ih0, ih1, ih2, ih3⟩ := wicketgatelaw26_SignalNests.mono_l k
  refine ⟨?_, ?_, ?_, ?_⟩
  ·intro y0 y1 y2 y3 y4 y5 y6 y7 y8 y9
   unfold wicketgatelaw26_SignalNests.j2
   repeat' first
   | (with_reducible exact ih0 _ _ _ _ _ _ _ _ _ _)
   | (with_reducible exact ih1 _ _ _ _ _ _ _ _ _ _)
   | (with_reducible exact ih2 _ _ _ _ _ _ _ _ _ _ _ _ _ _)
   | (with_reducible exact ih3 _ _ _ _ _ _ _ _ _ _ _ _ _ _ _ _ _ _ _)
   | (with_reducible exact signal_Same.mono _ _ _ _ _ _ _ _ _ _ _ _ _ _ _ _ _ _ _)
   | (with_reducible exact LeO.refl _)
   | (with_reducible exact LeO.none _)
   | (with_reducible refine LeO.ite ?_ ?_)
   | (with_reducible refine LeO.bind ?_ (fun _ => ?_))
   | exact ih0 _ _ _ _ _ _ _ _ _ _
   | exact ih1 _ _ _ _ _ _ _ _ _ _
   | exact ih2 _ _ _ _ _ _ _ _ _ _ _ _ _ _
   | exact ih3 _ _ _ _ _ _ _ _ _ _ _ _ _ _ _ _ _ _ _
   | exact signal_Same.mono _ _ _ _ _ _ _ _ _ _ _ _ _ _ _ _ _ _ _
   | exact LeO.none _
   | refine LeO.ite ?_ ?_
   | refine LeO.bind ?_ (fun _ => ?_)
  ·intro y0 y1 y2 y3 y4 y5 y6 y7 y8 y9
   unfold wicketgatelaw26_SignalNests.l1
   repeat' first
   | (with_reducible exact ih0 _ _ _ _ _ _ _ _ _ _)
   | (with_reducible exact ih1 _ _ _ _ _ _ _ _ _ _)
   | (with_reducible exact ih2 _ _ _ _ _ _ _ _ _ _ _ _ _ _)
   | (with_reducible exact ih3 _ _ _ _ _ _ _ _ _ _ _ _ _ _ _ _ _ _ _)
   | (with_reducible exact signal_Same.mono _ _ _ _ _ _ _ _ _ _ _ _ _ _ _ _ _ _ _)
   | (with_reducible exact LeO.refl _)
   | (with_reducible exact LeO.none _)
   | (with_reducible refine LeO.ite ?_ ?_)
   | (with_reducible refine LeO.bind ?_ (fun _ => ?_))
   | exact ih0 _ _ _ _ _ _ _ _ _ _
   | exact ih1 _ _ _ _ _ _ _ _ _ _
   | exact ih2 _ _ _ _ _ _ _ _ _ _ _ _ _ _
   | exact ih3 _ _ _ _ _ _ _ _ _ _ _ _ _ _ _ _ _ _ _
   | exact signal_Same.mono _ _ _ _ _ _ _ _ _ _ _ _ _ _ _ _ _ _ _
   | exact LeO.none _
   | refine LeO.ite ?_ ?_
   | refine LeO.bind ?_ (fun _ => ?_)
  ·intro y0 y1 y2 y3 y4 y5 y6 y7 y8 y9 y10 y11 y12 y13
   unfold wicketgatelaw26_SignalNests.l0
   repeat' first
   | (with_reducible exact ih0 _ _ _ _ _ _ _ _ _ _)
   | (with_reducible exact ih1 _ _ _ _ _ _ _ _ _ _)
   | (with_reducible exact ih2 _ _ _ _ _ _ _ _ _ _ _ _ _ _)
   | (with_reducible exact ih3 _ _ _ _ _ _ _ _ _ _ _ _ _ _ _ _ _ _ _)
   | (with_reducible exact signal_Same.mono _ _ _ _ _ _ _ _ _ _ _ _ _ _ _ _ _ _ _)
   | (with_reducible exact LeO.refl _)
   | (with_reducible exact LeO.none _)
   | (with_reducible refine LeO.ite ?_ ?_)
   | (with_reducible refine LeO.bind ?_ (fun _ => ?_))
   | exact ih0 _ _ _ _ _ _ _ _ _ _
   | exact ih1 _ _ _ _ _ _ _ _ _ _
   | exact ih2 _ _ _ _ _ _ _ _ _ _ _ _ _ _
   | exact ih3 _ _ _ _ _ _ _ _ _ _ _ _ _ _ _ _ _ _ _
   | exact signal_Same.mono _ _ _ _ _ _ _ _ _ _ _ _ _ _ _ _ _ _ _
   | exact LeO.none _
   | refine LeO.ite ?_ ?_
   | refine LeO.bind ?_ (fun _ => ?_)
  ·intro y0 y1 y2 y3 y4 y5 y6 y7 y8 y9 y10 y11 y12 y13 y14 y15 y16 y17 y18
   unfold wicketgatelaw26_SignalNests.j1
   repeat' first
   | (with_reducible exact ih0 _ _ _ _ _ _ _ _ _ _)
   | (with_reducible exact ih1 _ _ _ _ _ _ _ _ _ _)
   | (with_reducible exact ih2 _ _ _ _ _ _ _ _ _ _ _ _ _ _)
   | (with_reducible exact ih3 _ _ _ _ _ _ _ _ _ _ _ _ _ _ _ _ _ _ _)
   | (with_reducible exact signal_Same.mono _ _ _ _ _ _ _ _ _ _ _ _ _ _ _ _ _ _ _)
   | (with_reducible exact LeO.refl _)
   | (with_reducible exact LeO.none _)
   | (with_reducible refine LeO.ite ?_ ?_)
   | (with_reducible refine LeO.bind ?_ (fun _ => ?_))
   | exact ih0 _ _ _ _ _ _ _ _ _ _
   | exact ih1 _ _ _ _ _ _ _ _ _ _
   | exact ih2 _ _ _ _ _ _ _ _ _ _ _ _ _ _
   | exact ih3 _ _ _ _ _ _ _ _ _ _ _ _ _ _ _ _ _ _ _
   | exact signal_Same.mono _ _ _ _ _ _ _ _ _ _ _ _ _ _ _ _ _ _ _
   | exact LeO.none _
   | refine LeO.ite ?_ ?_
   | refine LeO.bind ?_ (fun _ => ?_)
theorem wicketgatelaw26_SignalNests.mono : ∀ a0 a1 k, LeO (wicketgatelaw26_SignalNests.f k a0 a1) (wicketgatelaw26_SignalNests.f (k + 1) a0 a1) := by
 intro a0 a1 k
 obtain ⟨ih0, ih1, ih2, ih3⟩ := wicketgatelaw26_SignalNests.mono_l k
 unfold wicketgatelaw26_SignalNests.f
 repeat' first
   | (with_reducible exact ih0 _ _ _ _ _ _ _ _ _ _)
   | (with_reducible exact ih1 _ _ _ _ _ _ _ _ _ _)
   | (with_reducible exact ih2 _ _ _ _ _ _ _ _ _ _ _ _ _ _)
   | (with_reducible exact ih3 _ _ _ _ _ _ _ _ _ _ _ _ _ _ _ _ _ _ _)
   | (with_reducible exact signal_Same.mono _ _ _ _ _ _ _ _ _ _ _ _ _ _ _ _ _ _ _)
   | (with_reducible exact LeO.refl _)
   | (with_reducible exact LeO.none _)
   | (with_reducible refine LeO.ite ?_ ?_)
   | (with_reducible refine LeO.bind ?_ (fun _ => ?_))
   | exact ih0 _ _ _ _ _ _ _ _ _ _
   | exact ih1 _ _ _ _ _ _ _ _ _ _
   | exact ih2 _ _ _ _ _ _ _ _ _ _ _ _ _ _
   | exact ih3 _ _ _ _ _ _ _ _ _ _ _ _ _ _ _ _ _ _ _
   | exact signal_Same.mono _ _ _ _ _ _ _ _ _ _ _ _ _ _ _ _ _ _ _
   | exact LeO.none _
   | refine LeO.ite ?_ ?_
   | refine LeO.bind ?_ (fun _ => ?_)
def wicketgatelaw26_SignalNests.T19 : Bool × List (List Nat × List Nat) := (true, [([], []), ([0], [0]), ([1], [1]), ([2], [2]), ([2], [2]), ([3, 4, 2], [2, 3, 4]), ([2, 5], [2, 5]), ([6, 2], [6]), ([7], [7]), ([7], [7]), ([7], [7]), ([10, 7], [7, 10]), ([11, 7], [7, 11]), ([9, 12, 7], [7, 9, 12]), ([13, 7], [7, 13]), ([8, 14, 7, 7], [7, 8, 14]), ([15, 7], [7, 15]), ([7, 16], [7, 16])])
def wicketgatelaw26_SignalNests.B19 : List Nat := [0, 1, 3, 7, 7, 31, 63, 127, 255, 255, 255, 1279, 3327, 7935, 16127, 32767, 65535, 131071]
theorem wicketgatelaw26_SignalNests.tab19 : rtab .any (opsOf Try.f4 19) = wicketgatelaw26_SignalNests.T19 := by kernel_rfl
theorem wicketgatelaw26_SignalNests.bits19 : waitsOk wicketgatelaw26_SignalNests.T19.2 wicketgatelaw26_SignalNests.B19 = true := by kernel_rfl
def wicketgatelaw26_SignalNests.T21 : Bool × List (List Nat × List Nat) := (true, [([], []), ([], []), ([], []), ([2], [2]), ([3], [3]), ([1, 4], [1, 4]), ([0, 0], [0]), ([5, 6, 0, 1, 2, 3, 4, 5, 6], [1, 2, 5])])
def wicketgatelaw26_SignalNests.B21 : List Nat := [0, 0, 0, 4, 12, 30, 1, 127]
theorem wicketgatelaw26_SignalNests.tab21 : rtab .any (opsOf Try.f4 21) = wicketgatelaw26_SignalNests.T21 := by kernel_rfl
theorem wicketgatelaw26_SignalNests.bits21 : waitsOk wicketgatelaw26_SignalNests.T21.2 wicketgatelaw26_SignalNests.B21 = true := by kernel_rfl
set_option maxHeartbeats 8000000 in
set_option maxRecDepth 100000 in
theorem wicketgatelaw26_SignalNests.calls (k : Nat) (a0 : Bool) (A1 : Option Addr) (c1 : Nat) (l1 : List (S24)) (r : Bool) (w : World) (hr1 : Kd.C k24 w A1 l1.length l1) (hc1 : l1.length ≤ c1) (h : wicketgatelaw26_SignalNests.f k a0 l1 = some r) (hr_ : r = true := by rfl) :
  Calls Try.prog 4 #[.bool a0, .slice A1 l1.length c1] w fun e w' => e = .returned (.bool r) ∧ Below w.heap.size w w' := by
 have HRr := Aside0.mk hr_
 clear hr_
 have hu27 := Try.underlying27
 have hu24 := Try.underlying24
 have hu33 := Try.underlying33
 have HR1 := Aside0.mk hr1
 have HC1 := Aside0.mk hc1
 clear hr1 hc1
 have HB := Aside0.mk (Below.refl w.heap.size w)
 have H : ((wicketgatelaw26_wakes.f).bind fun t319 => (if t319 = true then ((signal_Set.f 0 false false false 0 0 0 0 ([] : List Bool) 2 a0).bind fun bt320 => (if bt320.2.2.2.2.2.2.2.2.2 = 0 then (wicketgatelaw26_SignalNests.l0 k a0 (([] : List (S27))) l1 (l1.length : Int) 0 bt320.1 bt320.2.1 bt320.2.2.1 bt320.2.2.2.1 bt320.2.2.2.2.1 bt320.2.2.2.2.2.1 bt320.2.2.2.2.2.2.1 bt320.2.2.2.2.2.2.2.1 bt320.2.2.2.2.2.2.2.2.1) else (some false))) else (some false))) = some r := h
 clear h
 replace H := Option.bind_eq_some_iff.mp H
 obtain ⟨t319, A30, H⟩ := H
 replace H : (if t319 = true then ((signal_Set.f 0 false false false 0 0 0 0 ([] : List Bool) 2 a0).bind fun bt320 => (if bt320.2.2.2.2.2.2.2.2.2 = 0 then (wicketgatelaw26_SignalNests.l0 k a0 (([] : List (S27))) l1 (l1.length : Int) 0 bt320.1 bt320.2.1 bt320.2.2.1 bt320.2.2.2.1 bt320.2.2.2.2.1 bt320.2.2.2.2.2.1 bt320.2.2.2.2.2.2.1 bt320.2.2.2.2.2.2.2.1 bt320.2.2.2.2.2.2.2.2.1) else (some false))) else (some false)) = some r := H
 have A3 := Aside0.mk A30
 clear A30
 by_cases c4 : t319 = true
 ·subst c4
  have H1 : ((signal_Set.f 0 false false false 0 0 0 0 ([] : List Bool) 2 a0).bind fun bt320 => (if bt320.2.2.2.2.2.2.2.2.2 = 0 then (wicketgatelaw26_SignalNests.l0 k a0 (([] : List (S27))) l1 (l1.length : Int) 0 bt320.1 bt320.2.1 bt320.2.2.1 bt320.2.2.2.1 bt320.2.2.2.2.1 bt320.2.2.2.2.2.1 bt320.2.2.2.2.2.2.1 bt320.2.2.2.2.2.2.2.1 bt320.2.2.2.2.2.2.2.2.1) else (some false))) = some r := by rw [if_pos rfl] at H; exact H
  clear H
  have H := H1
  clear H1
  replace H := Option.bind_eq_some_iff.mp H
  obtain ⟨⟨t320, t321, t322, t323, t324, t325, t326, t327, t328, t331⟩, A50, H⟩ := H
  replace H : (if t331 = 0 then (wicketgatelaw26_SignalNests.l0 k a0 (([] : List (S27))) l1 (l1.length : Int) 0 t320 t321 t322 t323 t324 t325 t326 t327 t328) else (some false)) = some r := H
  have A5 := Aside0.mk A50
  clear A50
  by_cases c6 : t331 = 0
  ·rw [if_pos c6] at H
   have c6b0 : (t331 == 0) = true := beq_iff_eq.mpr c6
   have c6b1 : (t331 != 0) = false := bne_eq_false_iff_eq.mpr c6
   clear c6
   obtain ⟨y333, hy333⟩ : ∃ y_ : List (S27), y_ = (([] : List (S27))) := ⟨_, rfl⟩
   replace H : (wicketgatelaw26_SignalNests.l0 k a0 y333 l1 (l1.length : Int) 0 t320 t321 t322 t323 t324 t325 t326 t327 t328) = some r := by first | (rw [hy333]; with_reducible exact H) | (have H2_ := (Option.bind_some _ _).symm.trans H; rw [hy333]; with_reducible exact H2_) | (have H2_ := (Option.bind_some _ _).symm.trans H; with_reducible exact H2_) | with_reducible exact H | (rw [hy333]; exact H) | exact H
   have Ny333 := Aside0.mk hy333
   clear hy333
   have HC7 := Aside0.mk H
   clear H
   go_enter Try.func4, Try.ntmps4
   go_upto_block 0 with (first | ((with_reducible refine gate_callee (f := 6) rfl ?_); refine goesL_ (some 16) rfl rfl Try.func6 (by kernel_rfl) rfl #[] rfl (by (try simp only [List.map_toArray, List.map_cons, List.map_nil]); first | done | rfl | (simp only [List.length_drop, List.length_take]; rfl)) ?_; (with_reducible refine (wicketgatelaw26_wakes.calls  true _ A3.out).mono ?_); rintro e w8 ⟨rfl, hb⟩; refine ⟨_, rfl, ?_⟩; have n0_ := Aside0.mk (below_step (by repeat (first | (with_reducible first | exact HB.out | apply below_alloc | apply pw_below_drewN | apply below_drew1) | exact HB.out)) hb); clear HB; have HB := n0_; clear n0_; (try clear hb); (try clear hb2); (try clear hk); (try clear hi)) | ((with_reducible refine gate_callee (f := 12) rfl ?_); refine goesL_ (some 21) rfl rfl Try.func12 (by kernel_rfl) rfl #[.agg #[.int .i64 0, .bool false, .bool false, .bool false, .int .i64 0, .int .i64 0, .int .u32 0, .int .u32 0, .slice none 0 0], .int .i64 2, .bool a0] rfl (by (try simp only [List.map_toArray, List.map_cons, List.map_nil]); first | done | rfl | (simp only [List.length_drop, List.length_take]; rfl)) ?_; (refine (signal_Set.calls 0 false false false 0 0 0 0 _ _ ([] : List Bool) 2 a0 t320 t321 t322 t323 t324 t325 t326 t327 t328 t331 _ ?side1 ?side2 A5.out).mono ?_); (case side1 => exact Kd.C_nil _ _); (case side2 => exact Nat.le_refl _); rintro e w9 ⟨v329, rfl, ho0, hb⟩; refine ⟨_, rfl, ?_⟩; have n0_ := Aside0.mk (Kd.R_lower ho0 (below_size (by repeat (first | (with_reducible first | exact HB.out | apply below_alloc | apply pw_below_drewN | apply below_drew1) | exact HB.out)))); have n1_ := Aside0.mk (below_step (by repeat (first | (with_reducible first | exact HB.out | apply below_alloc | apply pw_below_drewN | apply below_drew1) | exact HB.out)) hb); clear HB; have HO330 := n0_; have HB := n1_; clear n0_ n1_; (try clear hb); (try clear hb2); (try clear hk); (try clear hi); (try clear ho0)) | ((with_reducible refine gate_dst (N := 5) rfl ?_); (try (refine gate_guard (by rfl) ?_; dsimp only)); refine box_event ?hg (N := 5) ?hd (cs := #[.int .i64 0, .bool false, .bool false, .bool false, .int .i64 0, .int .i64 0, .int .u32 0, .int .u32 0, .slice none 0 0]) (t := 27) ?hr ?_; (case hd => rfl); (case hg => rfl); (case hr => first | (go_simp; done) | (go_simp; rfl)); intro gb332 hg w10 hbox hb; have n0_ := Aside0.mk (Kd.R_below (by (with_reducible repeat (first | apply Kd.R_alloc | apply Kd.R_drewN | apply Kd.R_drew)); exact HO330.out) hb); have n1_ := Aside0.mk (below_step (by repeat (first | (with_reducible first | exact HB.out | apply below_alloc | apply pw_below_drewN | apply below_drew1) | exact HB.out)) hb); have n2_ := Aside0.mk (hbox); have n3_ := Aside0.mk ((by rw [hg]; exact (below_size (by repeat (first | (with_reducible first | exact HB.out | apply below_alloc | apply pw_below_drewN | apply below_drew1) | exact HB.out))) : w.heap.size ≤ gb332)); have n4_ := Aside0.mk ((by rw [hg]; exact (below_size (by repeat (first | (with_reducible first | exact HB.out | apply below_alloc | apply pw_below_drewN | apply below_drew1) | exact HB.out))) : w.heap.size ≤ gb332)); clear HO330; clear HB; have HO330 := n0_; have HB := n1_; have BK332 := n2_; have GW332 := n3_; have GE332 := n4_; clear n0_ n1_ n2_ n3_ n4_; clear hb hbox hg; have hcz11_0 : w10.cell? ⟨gb332, 0, none⟩ = some (.int .i64 0) := (blk_cell BK332.out 0).trans rfl; have hcz11_1 : w10.cell? ⟨gb332, 1, none⟩ = some (.bool false) := (blk_cell BK332.out 1).trans rfl; have hcz11_2 : w10.cell? ⟨gb332, 2, none⟩ = some (.bool false) := (blk_cell BK332.out 2).trans rfl; have hcz11_3 : w10.cell? ⟨gb332, 3, none⟩ = some (.bool false) := (blk_cell BK332.out 3).trans rfl; have hcz11_4 : w10.cell? ⟨gb332, 4, none⟩ = some (.int .i64 0) := (blk_cell BK332.out 4).trans rfl; have hcz11_5 : w10.cell? ⟨gb332, 5, none⟩ = some (.int .i64 0) := (blk_cell BK332.out 5).trans rfl; have hcz11_6 : w10.cell? ⟨gb332, 6, none⟩ = some (.int .u32 0) := (blk_cell BK332.out 6).trans rfl; have hcz11_7 : w10.cell? ⟨gb332, 7, none⟩ = some (.int .u32 0) := (blk_cell BK332.out 7).trans rfl; have hcz11_8 : w10.cell? ⟨gb332, 8, none⟩ = some (.slice none 0 0) := (blk_cell BK332.out 8).trans rfl; have hfz11_0 := blk_frozen BK332.out 0; have hfz11_1 := blk_frozen BK332.out 1; have hfz11_2 := blk_frozen BK332.out 2; have hfz11_3 := blk_frozen BK332.out 3; have hfz11_4 := blk_frozen BK332.out 4; have hfz11_5 := blk_frozen BK332.out 5; have hfz11_6 := blk_frozen BK332.out 6; have hfz11_7 := blk_frozen BK332.out 7; have hfz11_8 := blk_frozen BK332.out 8; obtain ⟨Ao12, co12, eo12⟩ := Kd.R_slice HO330.out; subst eo12) | ((with_reducible refine gate_dst (N := 26) rfl ?_); (try (refine gate_guard (by rfl) ?_; dsimp only)); refine Kd.S_lit k27 _ 27 ?hg (N := 26) ?hd (xs := ([] : List (S27))) (inner := []) (ok := fun _ => True) (okp := fun _ => True) ?hr ?hp (fun _ hk => hk) trivial (Below.refl _ _) (Nat.le_refl _) (by simp) ?_; (case hd => rfl); (case hg => rfl); (case hr => first | (go_simp; done) | (go_simp; rfl)); (case hp => exact (Reps.none _ _)); intro v334 w13 ho14 hb hg_ hnew_; clear hg_ hnew_; (first | rw [← Ny333.out] at ho14 | (simp only [Int.reduceToNat] at ho14; rw [← Ny333.out] at ho14)); have n0_ := Aside0.mk (Kd.R_below (by (with_reducible repeat (first | apply Kd.R_alloc | apply Kd.R_drewN | apply Kd.R_drew)); exact (Kd.R_mono (Kd.R_far (p := ⟨gb332, 8, none⟩) (Kd.R_far (p := ⟨gb332, 7, none⟩) (Kd.R_far (p := ⟨gb332, 6, none⟩) (Kd.R_far (p := ⟨gb332, 5, none⟩) (Kd.R_far (p := ⟨gb332, 4, none⟩) (Kd.R_far (p := ⟨gb332, 3, none⟩) (Kd.R_far (p := ⟨gb332, 2, none⟩) (Kd.R_far (p := ⟨gb332, 1, none⟩) (Kd.R_far (p := ⟨gb332, 0, none⟩) (Kd.R_types HO330.out BK332.out (by decide)) (fun _ hk => hk.2) (.int .i64 t320)) (fun _ hk => hk.2) (.bool t321)) (fun _ hk => hk.2) (.bool t322)) (fun _ hk => hk.2) (.bool t323)) (fun _ hk => hk.2) (.int .i64 t324)) (fun _ hk => hk.2) (.int .i64 t325)) (fun _ hk => hk.2) (.int .u32 t326)) (fun _ hk => hk.2) (.int .u32 t327)) (fun _ hk => hk.2) (.slice Ao12 t328.length co12)) (fun _ h_ => h_.1))) hb); have n1_ := Aside0.mk (Kd.S_lower (Kd.S_newB (Kd.S_new' ho14 (Kd.R_lt (by (with_reducible repeat (first | apply Kd.R_alloc | apply Kd.R_drewN | apply Kd.R_drew)); exact (Kd.R_mono (Kd.R_far (p := ⟨gb332, 8, none⟩) (Kd.R_far (p := ⟨gb332, 7, none⟩) (Kd.R_far (p := ⟨gb332, 6, none⟩) (Kd.R_far (p := ⟨gb332, 5, none⟩) (Kd.R_far (p := ⟨gb332, 4, none⟩) (Kd.R_far (p := ⟨gb332, 3, none⟩) (Kd.R_far (p := ⟨gb332, 2, none⟩) (Kd.R_far (p := ⟨gb332, 1, none⟩) (Kd.R_far (p := ⟨gb332, 0, none⟩) (Kd.R_types HO330.out BK332.out (by decide)) (fun _ hk => hk.2) (.int .i64 t320)) (fun _ hk => hk.2) (.bool t321)) (fun _ hk => hk.2) (.bool t322)) (fun _ hk => hk.2) (.bool t323)) (fun _ hk => hk.2) (.int .i64 t324)) (fun _ hk => hk.2) (.int .i64 t325)) (fun _ hk => hk.2) (.int .u32 t326)) (fun _ hk => hk.2) (.int .u32 t327)) (fun _ hk => hk.2) (.slice Ao12 t328.length co12)) (fun _ h_ => h_.1))))) (g := gb332) (o := .cells #[.int .i64 t320, .bool t321, .bool t322, .bool t323, .int .i64 t324, .int .i64 t325, .int .u32 t326, .int .u32 t327, .slice Ao12 t328.length co12] 27 (0, 0)) (by (with_reducible repeat (first | refine blk_drewN ?_ _ | refine blk_drew ?_ | refine blk_alloc ?_ _)); refine blk_put (cs := #[.int .i64 t320, .bool t321, .bool t322, .bool t323, .int .i64 t324, .int .i64 t325, .int .u32 t326, .int .u32 t327, .slice none 0 0]) ?_ 8 _ rfl; (with_reducible repeat (first | refine blk_drewN ?_ _ | refine blk_drew ?_ | refine blk_alloc ?_ _)); refine blk_put (cs := #[.int .i64 t320, .bool t321, .bool t322, .bool t323, .int .i64 t324, .int .i64 t325, .int .u32 t326, .int .u32 0, .slice none 0 0]) ?_ 7 _ rfl; (with_reducible repeat (first | refine blk_drewN ?_ _ | refine blk_drew ?_ | refine blk_alloc ?_ _)); refine blk_put (cs := #[.int .i64 t320, .bool t321, .bool t322, .bool t323, .int .i64 t324, .int .i64 t325, .int .u32 0, .int .u32 0, .slice none 0 0]) ?_ 6 _ rfl; (with_reducible repeat (first | refine blk_drewN ?_ _ | refine blk_drew ?_ | refine blk_alloc ?_ _)); refine blk_put (cs := #[.int .i64 t320, .bool t321, .bool t322, .bool t323, .int .i64 t324, .int .i64 0, .int .u32 0, .int .u32 0, .slice none 0 0]) ?_ 5 _ rfl; (with_reducible repeat (first | refine blk_drewN ?_ _ | refine blk_drew ?_ | refine blk_alloc ?_ _)); refine blk_put (cs := #[.int .i64 t320, .bool t321, .bool t322, .bool t323, .int .i64 0, .int .i64 0, .int .u32 0, .int .u32 0, .slice none 0 0]) ?_ 4 _ rfl; (with_reducible repeat (first | refine blk_drewN ?_ _ | refine blk_drew ?_ | refine blk_alloc ?_ _)); refine blk_put (cs := #[.int .i64 t320, .bool t321, .bool t322, .bool false, .int .i64 0, .int .i64 0, .int .u32 0, .int .u32 0, .slice none 0 0]) ?_ 3 _ rfl; (with_reducible repeat (first | refine blk_drewN ?_ _ | refine blk_drew ?_ | refine blk_alloc ?_ _)); refine blk_put (cs := #[.int .i64 t320, .bool t321, .bool false, .bool false, .int .i64 0, .int .i64 0, .int .u32 0, .int .u32 0, .slice none 0 0]) ?_ 2 _ rfl; (with_reducible repeat (first | refine blk_drewN ?_ _ | refine blk_drew ?_ | refine blk_alloc ?_ _)); refine blk_put (cs := #[.int .i64 t320, .bool false, .bool false, .bool false, .int .i64 0, .int .i64 0, .int .u32 0, .int .u32 0, .slice none 0 0]) ?_ 1 _ rfl; (with_reducible repeat (first | refine blk_drewN ?_ _ | refine blk_drew ?_ | refine blk_alloc ?_ _)); refine blk_put (cs := #[.int .i64 0, .bool false, .bool false, .bool false, .int .i64 0, .int .i64 0, .int .u32 0, .int .u32 0, .slice none 0 0]) ?_ 0 _ rfl; (with_reducible repeat (first | refine blk_drewN ?_ _ | refine blk_drew ?_ | refine blk_alloc ?_ _)); exact BK332.out)) (below_size (by repeat (first | (with_reducible first | exact HB.out | apply below_alloc | apply pw_below_drewN | apply below_drew1 | refine below_set ?_ GE332.out) | exact HB.out)))); have n2_ := Aside0.mk (blk_below (g := gb332) (o := .cells #[.int .i64 t320, .bool t321, .bool t322, .bool t323, .int .i64 t324, .int .i64 t325, .int .u32 t326, .int .u32 t327, .slice Ao12 t328.length co12] 27 (0, 0)) (by (with_reducible repeat (first | refine blk_drewN ?_ _ | refine blk_drew ?_ | refine blk_alloc ?_ _)); refine blk_put (cs := #[.int .i64 t320, .bool t321, .bool t322, .bool t323, .int .i64 t324, .int .i64 t325, .int .u32 t326, .int .u32 t327, .slice none 0 0]) ?_ 8 _ rfl; (with_reducible repeat (first | refine blk_drewN ?_ _ | refine blk_drew ?_ | refine blk_alloc ?_ _)); refine blk_put (cs := #[.int .i64 t320, .bool t321, .bool t322, .bool t323, .int .i64 t324, .int .i64 t325, .int .u32 t326, .int .u32 0, .slice none 0 0]) ?_ 7 _ rfl; (with_reducible repeat (first | refine blk_drewN ?_ _ | refine blk_drew ?_ | refine blk_alloc ?_ _)); refine blk_put (cs := #[.int .i64 t320, .bool t321, .bool t322, .bool t323, .int .i64 t324, .int .i64 t325, .int .u32 0, .int .u32 0, .slice none 0 0]) ?_ 6 _ rfl; (with_reducible repeat (first | refine blk_drewN ?_ _ | refine blk_drew ?_ | refine blk_alloc ?_ _)); refine blk_put (cs := #[.int .i64 t320, .bool t321, .bool t322, .bool t323, .int .i64 t324, .int .i64 0, .int .u32 0, .int .u32 0, .slice none 0 0]) ?_ 5 _ rfl; (with_reducible repeat (first | refine blk_drewN ?_ _ | refine blk_drew ?_ | refine blk_alloc ?_ _)); refine blk_put (cs := #[.int .i64 t320, .bool t321, .bool t322, .bool t323, .int .i64 0, .int .i64 0, .int .u32 0, .int .u32 0, .slice none 0 0]) ?_ 4 _ rfl; (with_reducible repeat (first | refine blk_drewN ?_ _ | refine blk_drew ?_ | refine blk_alloc ?_ _)); refine blk_put (cs := #[.int .i64 t320, .bool t321, .bool t322, .bool false, .int .i64 0, .int .i64 0, .int .u32 0, .int .u32 0, .slice none 0 0]) ?_ 3 _ rfl; (with_reducible repeat (first | refine blk_drewN ?_ _ | refine blk_drew ?_ | refine blk_alloc ?_ _)); refine blk_put (cs := #[.int .i64 t320, .bool t321, .bool false, .bool false, .int .i64 0, .int .i64 0, .int .u32 0, .int .u32 0, .slice none 0 0]) ?_ 2 _ rfl; (with_reducible repeat (first | refine blk_drewN ?_ _ | refine blk_drew ?_ | refine blk_alloc ?_ _)); refine blk_put (cs := #[.int .i64 t320, .bool false, .bool false, .bool false, .int .i64 0, .int .i64 0, .int .u32 0, .int .u32 0, .slice none 0 0]) ?_ 1 _ rfl; (with_reducible repeat (first | refine blk_drewN ?_ _ | refine blk_drew ?_ | refine blk_alloc ?_ _)); refine blk_put (cs := #[.int .i64 0, .bool false, .bool false, .bool false, .int .i64 0, .int .i64 0, .int .u32 0, .int .u32 0, .slice none 0 0]) ?_ 0 _ rfl; (with_reducible repeat (first | refine blk_drewN ?_ _ | refine blk_drew ?_ | refine blk_alloc ?_ _)); exact BK332.out) hb); have n3_ := Aside0.mk (below_step (by repeat (first | (with_reducible first | exact HB.out | apply below_alloc | apply pw_below_drewN | apply below_drew1 | refine below_set ?_ GE332.out) | exact HB.out)) hb); clear HO330; clear BK332; clear HB; have HO330 := n0_; have HO335 := n1_; have BK332 := n2_; have HB := n3_; clear n0_ n1_ n2_ n3_; clear hb ho14))
   (try simp only [Act.put, List.setIfInBounds_toArray, List.set_cons_zero, List.set_cons_succ])
   go_cut [7] (fun v7 wc => ∃ (kq : Nat) (x7_6 : List (S27)) (x333000_6 : Int) (x333001_6 : Bool) (x333002_6 : Bool) (x333003_6 : Bool) (x333004_6 : Int) (x333005_6 : Int) (x333006_6 : Int) (x333007_6 : Int) (x333008_6 : List Bool) (u333008 : Value), Aside0 (wicketgatelaw26_SignalNests.j2 kq x7_6 x333000_6 x333001_6 x333002_6 x333003_6 x333004_6 x333005_6 x333006_6 x333007_6 x333008_6 = some r) ∧ Aside0 (kq ≤ k) ∧ Aside0 (Kd.S k27 27 wc w.heap.size (fun k_ => some k_ ≠ (u333008 : Value).ownBlock ∧ k_ ≠ gb332) v7 x7_6) ∧ Aside0 (Kd.R Kd.bool 4 wc w.heap.size (fun _ => True) u333008 x333008_6) ∧ Aside0 (wc.heap[gb332]? = some (.cells #[.int .i64 x333000_6, .bool x333001_6, .bool x333002_6, .bool x333003_6, .int .i64 x333004_6, .int .i64 x333005_6, .int .u32 x333006_6, .int .u32 x333007_6, u333008] 27 (0, 0))) ∧ Aside0 (Below w.heap.size w wc))
   case first =>
    have H := HC7.out
    clear HC7
    have H' := Aside0.mk H
    clear H
    go_wp2
    go_loopg [7, 29] k (fun kq v7 v29 w' => ∃ (x7_1 : List (S27)) (x29_1 : Int) (x333000_1 : Int) (x333001_1 : Bool) (x333002_1 : Bool) (x333003_1 : Bool) (x333004_1 : Int) (x333005_1 : Int) (x333006_1 : Int) (x333007_1 : Int) (x333008_1 : List Bool) (u333008 : Value), v29 = .int .i64 x29_1 ∧ Aside0 (wicketgatelaw26_SignalNests.l0 kq a0 x7_1 l1 (l1.length : Int) x29_1 x333000_1 x333001_1 x333002_1 x333003_1 x333004_1 x333005_1 x333006_1 x333007_1 x333008_1 = some r) ∧ Aside0 (kq ≤ k) ∧ Aside0 (Kd.S k27 27 w' w.heap.size (fun k_ => some k_ ≠ (u333008 : Value).ownBlock ∧ k_ ≠ gb332) v7 x7_1) ∧ Aside0 (Kd.R Kd.bool 4 w' w.heap.size (fun _ => True) u333008 x333008_1) ∧ Aside0 (w'.heap[gb332]? = some (.cells #[.int .i64 x333000_1, .bool x333001_1, .bool x333002_1, .bool x333003_1, .int .i64 x333004_1, .int .i64 x333005_1, .int .u32 x333006_1, .int .u32 x333007_1, u333008] 27 (0, 0))) ∧ Aside0 (Below w.heap.size w w'))
    case atStart => exact ⟨(y333), (0), (t320), (t321), (t322), (t323), (t324), (t325), (t326), (t327), (t328), (.slice Ao12 t328.length co12), (by first | rfl | (simp; done) | (simp [*]; done)), H', ⟨Nat.le_refl _⟩, ⟨by (with_reducible repeat (first | apply Kd.S_alloc | apply Kd.S_drewN | apply Kd.S_drew)); exact Kd.S_mono HO335.out (fun _ hk => ⟨hk.1.2, hk.2⟩)⟩, ⟨by (with_reducible repeat (first | apply Kd.R_alloc | apply Kd.R_drewN | apply Kd.R_drew)); exact HO330.out⟩, ⟨by (with_reducible repeat (first | refine blk_drewN ?_ _ | refine blk_drew ?_ | refine blk_alloc ?_ _)); exact BK332.out⟩, ⟨by repeat (first | (with_reducible first | exact HB.out | apply below_alloc | apply pw_below_drewN | apply below_drew1 | refine below_set ?_ GE332.out) | exact HB.out)⟩⟩
    case round =>
     clear H'
     try clear c1
     try clear p2
     try clear c4
     try clear c6
     try clear c6b0
     try clear c6b1
     try clear c12
     try clear hcz11_0
     try clear hcz11_1
     try clear hcz11_2
     try clear hcz11_3
     try clear hcz11_4
     try clear hcz11_5
     try clear hcz11_6
     try clear hcz11_7
     try clear hcz11_8
     try clear hfz11_0
     try clear hfz11_1
     try clear hfz11_2
     try clear hfz11_3
     try clear hfz11_4
     try clear hfz11_5
     try clear hfz11_6
     try clear hfz11_7
     try clear hfz11_8
     obtain ⟨x7_1, x29_1, x333000_1, x333001_1, x333002_1, x333003_1, x333004_1, x333005_1, x333006_1, x333007_1, x333008_1, u333008, rfl, HA, HK1, HO_7, HO_333008, BK332, HB⟩ := hrel
     cases gk with
     | zero => exact absurd HA.out (by simp [wicketgatelaw26_SignalNests.l0])
     | succ k1 =>
      have H := HA.out
      clear HA
      simp only [wicketgatelaw26_SignalNests.l0] at H
      by_cases c15 : x29_1 < (l1.length : Int)
      ·rw [if_pos c15] at H
       have c15b0 : decide (x29_1 < (l1.length : Int)) = true := decide_eq_true c15
       clear c15
       (first | rw [c15b0] | (simp only [i64_w, i32_w]; rw [c15b0]) | skip)
       by_cases c16 : 0 ≤ x29_1
       ·rw [if_pos c16] at H
        have c16b0 : decide (0 ≤ x29_1) = true := decide_eq_true c16
        clear c16
        by_cases c17 : x29_1 < (l1.length : Int)
        ·rw [if_pos c17] at H
         have c17b0 : decide (x29_1 < (l1.length : Int)) = true := decide_eq_true c17
         clear c17
         have HC18 := Aside0.mk H
         clear H
         have p336 : 0 ≤ (x29_1 : Int) := of_decide_eq_true (by first | (with_reducible assumption) | assumption)
         have q336 : x29_1 < (l1.length : Int) := of_decide_eq_true (by first | (with_reducible assumption) | assumption)
         obtain ⟨ad336, e336, hx336_0, hx336_1, hx336_2, hx336_3⟩ := at_T24 HR1.out x29_1 p336 q336
         cases e336
         replace hx336_0 := (HB.out.cell (World.block_lt_of_cell? w _ hx336_0)).trans hx336_0
         replace hx336_1 := (HB.out.cell (World.block_lt_of_cell? w _ hx336_1)).trans hx336_1
         replace hx336_2 := (HB.out.cell (World.block_lt_of_cell? w _ hx336_2)).trans hx336_2
         replace hx336_3 := (HB.out.cell (World.block_lt_of_cell? w _ hx336_3)).trans hx336_3
         replace p336 := eq_true p336
         replace q336 := eq_true q336
         go_upto_region 10 with (first | ((with_reducible refine gate_dst (N := 9) rfl ?_); (try (refine gate_guard (by rfl) ?_; dsimp only)); refine box_event ?hg (N := 9) ?hd (cs := #[.int .i64 0, .int .i64 0, .int .u32 0, .int .u32 0]) (t := 24) ?hr ?_; (case hd => rfl); (case hg => rfl); (case hr => first | (go_simp; done) | (go_simp; rfl)); intro gb337 hg w19 hbox hb; have n0_ := Aside0.mk (Kd.S_below (by (with_reducible repeat (first | apply Kd.S_alloc | apply Kd.S_drewN | apply Kd.S_drew)); exact HO_7.out) hb); have n1_ := Aside0.mk (Kd.R_below (by (with_reducible repeat (first | apply Kd.R_alloc | apply Kd.R_drewN | apply Kd.R_drew)); exact HO_333008.out) hb); have n2_ := Aside0.mk (blk_below (g := gb332) (o := .cells #[.int .i64 x333000_1, .bool x333001_1, .bool x333002_1, .bool x333003_1, .int .i64 x333004_1, .int .i64 x333005_1, .int .u32 x333006_1, .int .u32 x333007_1, u333008] 27 (0, 0)) (by (with_reducible repeat (first | refine blk_drewN ?_ _ | refine blk_drew ?_ | refine blk_alloc ?_ _)); exact BK332.out) hb); have n3_ := Aside0.mk (below_step (by repeat (first | (with_reducible first | exact HB.out | apply below_alloc | apply pw_below_drewN | apply below_drew1 | refine below_set ?_ GE332.out) | exact HB.out)) hb); have n4_ := Aside0.mk (hbox); have n5_ := Aside0.mk ((by rw [hg]; exact (below_size (by repeat (first | (with_reducible first | exact HB.out | apply below_alloc | apply pw_below_drewN | apply below_drew1 | refine below_set ?_ GE332.out) | exact HB.out))) : w.heap.size ≤ gb337)); have n6_ := Aside0.mk ((by rw [hg]; exact (below_size (by repeat (first | (with_reducible first | exact HB.out | apply below_alloc | apply pw_below_drewN | apply below_drew1 | refine below_set ?_ GE332.out) | exact HB.out))) : w.heap.size ≤ gb337)); have n7_ := Aside0.mk ((by rw [hg]; exact Nat.ne_of_lt (blk_lt (g := gb332) (o := .cells #[.int .i64 x333000_1, .bool x333001_1, .bool x333002_1, .bool x333003_1, .int .i64 x333004_1, .int .i64 x333005_1, .int .u32 x333006_1, .int .u32 x333007_1, u333008] 27 (0, 0)) (by (with_reducible repeat (first | refine blk_drewN ?_ _ | refine blk_drew ?_ | refine blk_alloc ?_ _)); exact BK332.out)) : gb332 ≠ gb337)); have n8_ := Aside0.mk ((by rw [hg]; exact Nat.ne_of_gt (blk_lt (g := gb332) (o := .cells #[.int .i64 x333000_1, .bool x333001_1, .bool x333002_1, .bool x333003_1, .int .i64 x333004_1, .int .i64 x333005_1, .int .u32 x333006_1, .int .u32 x333007_1, u333008] 27 (0, 0)) (by (with_reducible repeat (first | refine blk_drewN ?_ _ | refine blk_drew ?_ | refine blk_alloc ?_ _)); exact BK332.out)) : gb337 ≠ gb332)); clear HO_7; clear HO_333008; clear BK332; clear HB; have HO_7 := n0_; have HO_333008 := n1_; have BK332 := n2_; have HB := n3_; have BK337 := n4_; have GW337 := n5_; have GE337 := n6_; have NB332_337 := n7_; have NB337_332 := n8_; clear n0_ n1_ n2_ n3_ n4_ n5_ n6_ n7_ n8_; clear hb hbox hg; have hnb20 := NB337_332.out; have hnc20 := NB332_337.out; have hcz21_0 : w19.cell? ⟨gb337, 0, none⟩ = some (.int .i64 0) := (blk_cell BK337.out 0).trans rfl; have hcz21_1 : w19.cell? ⟨gb337, 1, none⟩ = some (.int .i64 0) := (blk_cell BK337.out 1).trans rfl; have hcz21_2 : w19.cell? ⟨gb337, 2, none⟩ = some (.int .u32 0) := (blk_cell BK337.out 2).trans rfl; have hcz21_3 : w19.cell? ⟨gb337, 3, none⟩ = some (.int .u32 0) := (blk_cell BK337.out 3).trans rfl; have hfz21_0 := blk_frozen BK337.out 0; have hfz21_1 := blk_frozen BK337.out 1; have hfz21_2 := blk_frozen BK337.out 2; have hfz21_3 := blk_frozen BK337.out 3))
         (try simp only [Act.put, List.setIfInBounds_toArray, List.set_cons_zero, List.set_cons_succ])
         go_cut [43] (fun v43 wc => ∃ (kq : Nat) (x43_17 : Bool), v43 = .bool x43_17 ∧ Aside0 (wicketgatelaw26_SignalNests.j1 kq a0 x7_1 l1 (l1.length : Int) x29_1 x43_17 x333000_1 x333001_1 x333002_1 x333003_1 x333004_1 x333005_1 x333006_1 x333007_1 x333008_1 ((rd_T24 l1 x29_1).f0) ((rd_T24 l1 x29_1).f1) ((rd_T24 l1 x29_1).f2) ((rd_T24 l1 x29_1).f3) = some r) ∧ Aside0 (kq ≤ k1) ∧ Aside0 (Kd.S k27 27 wc w.heap.size (fun k_ => some k_ ≠ (u333008 : Value).ownBlock ∧ k_ ≠ gb332) u7 x7_1) ∧ Aside0 (Kd.R Kd.bool 4 wc w.heap.size (fun _ => True) u333008 x333008_1) ∧ Aside0 (wc.heap[gb332]? = some (.cells #[.int .i64 x333000_1, .bool x333001_1, .bool x333002_1, .bool x333003_1, .int .i64 x333004_1, .int .i64 x333005_1, .int .u32 x333006_1, .int .u32 x333007_1, u333008] 27 (0, 0))) ∧ Aside0 (wc.heap[gb337]? = some (.cells #[.int .i64 ((rd_T24 l1 x29_1).f0), .int .i64 ((rd_T24 l1 x29_1).f1), .int .u32 ((rd_T24 l1 x29_1).f2), .int .u32 ((rd_T24 l1 x29_1).f3)] 24 (0, 0))) ∧ Aside0 (Below w.heap.size w wc))
         case first =>
          have H := HC18.out
          clear HC18
          by_cases c22 : x29_1 = 4
          ·rw [if_pos c22] at H
           have c22b0 : (x29_1 == 4) = true := beq_iff_eq.mpr c22
           have c22b1 : (x29_1 != 4) = false := bne_eq_false_iff_eq.mpr c22
           clear c22
           (first | rw [c22b0] | (simp only [i64_w, i32_w]; rw [c22b0]) | skip)
           have H' := Aside0.mk H
           clear H
           go_wp2
           go_meet
           case rel => exact ⟨_, (true), (by first | rfl | (simp; done) | (simp [*]; done)), H', ⟨by have := HK1.out; first | omega | exact Nat.le_refl _⟩, ⟨by (with_reducible repeat (first | apply Kd.S_alloc | apply Kd.S_drewN | apply Kd.S_drew)); exact Kd.S_mono (Kd.S_far (p := ⟨gb337, 3, none⟩) (Kd.S_far (p := ⟨gb337, 2, none⟩) (Kd.S_far (p := ⟨gb337, 1, none⟩) (Kd.S_far (p := ⟨gb337, 0, none⟩) (Kd.S_types HO_7.out BK337.out (by decide)) (fun _ hk => hk.2) (.int .i64 ((rd_T24 l1 x29_1).f0))) (fun _ hk => hk.2) (.int .i64 ((rd_T24 l1 x29_1).f1))) (fun _ hk => hk.2) (.int .u32 ((rd_T24 l1 x29_1).f2))) (fun _ hk => hk.2) (.int .u32 ((rd_T24 l1 x29_1).f3))) (fun _ hk => ⟨hk.1.1, hk.1.2⟩)⟩, ⟨by (with_reducible repeat (first | apply Kd.R_alloc | apply Kd.R_drewN | apply Kd.R_drew)); exact Kd.R_mono (Kd.R_far (p := ⟨gb337, 3, none⟩) (Kd.R_far (p := ⟨gb337, 2, none⟩) (Kd.R_far (p := ⟨gb337, 1, none⟩) (Kd.R_far (p := ⟨gb337, 0, none⟩) (Kd.R_types HO_333008.out BK337.out (by decide)) (fun _ hk => hk.2) (.int .i64 ((rd_T24 l1 x29_1).f0))) (fun _ hk => hk.2) (.int .i64 ((rd_T24 l1 x29_1).f1))) (fun _ hk => hk.2) (.int .u32 ((rd_T24 l1 x29_1).f2))) (fun _ hk => hk.2) (.int .u32 ((rd_T24 l1 x29_1).f3))) (fun _ hk => trivial)⟩, ⟨by (with_reducible repeat (first | refine blk_drewN ?_ _ | refine blk_drew ?_ | refine blk_alloc ?_ _)); refine blk_far ?_ NB332_337.out _; (with_reducible repeat (first | refine blk_drewN ?_ _ | refine blk_drew ?_ | refine blk_alloc ?_ _)); refine blk_far ?_ NB332_337.out _; (with_reducible repeat (first | refine blk_drewN ?_ _ | refine blk_drew ?_ | refine blk_alloc ?_ _)); refine blk_far ?_ NB332_337.out _; (with_reducible repeat (first | refine blk_drewN ?_ _ | refine blk_drew ?_ | refine blk_alloc ?_ _)); refine blk_far ?_ NB332_337.out _; (with_reducible repeat (first | refine blk_drewN ?_ _ | refine blk_drew ?_ | refine blk_alloc ?_ _)); exact BK332.out⟩, ⟨by (with_reducible repeat (first | refine blk_drewN ?_ _ | refine blk_drew ?_ | refine blk_alloc ?_ _)); refine blk_put (cs := #[.int .i64 ((rd_T24 l1 x29_1).f0), .int .i64 ((rd_T24 l1 x29_1).f1), .int .u32 ((rd_T24 l1 x29_1).f2), .int .u32 0]) ?_ 3 _ rfl; (with_reducible repeat (first | refine blk_drewN ?_ _ | refine blk_drew ?_ | refine blk_alloc ?_ _)); refine blk_put (cs := #[.int .i64 ((rd_T24 l1 x29_1).f0), .int .i64 ((rd_T24 l1 x29_1).f1), .int .u32 0, .int .u32 0]) ?_ 2 _ rfl; (with_reducible repeat (first | refine blk_drewN ?_ _ | refine blk_drew ?_ | refine blk_alloc ?_ _)); refine blk_put (cs := #[.int .i64 ((rd_T24 l1 x29_1).f0), .int .i64 0, .int .u32 0, .int .u32 0]) ?_ 1 _ rfl; (with_reducible repeat (first | refine blk_drewN ?_ _ | refine blk_drew ?_ | refine blk_alloc ?_ _)); refine blk_put (cs := #[.int .i64 0, .int .i64 0, .int .u32 0, .int .u32 0]) ?_ 0 _ rfl; (with_reducible repeat (first | refine blk_drewN ?_ _ | refine blk_drew ?_ | refine blk_alloc ?_ _)); exact BK337.out⟩, ⟨by repeat (first | (with_reducible first | exact HB.out | apply below_alloc | apply pw_below_drewN | apply below_drew1 | refine below_set ?_ GE332.out | refine below_set ?_ GE337.out) | exact HB.out)⟩⟩
          ·rw [if_neg c22] at H
           have c22b0 : (x29_1 == 4) = false := beq_eq_false_iff_ne.mpr c22
           have c22b1 : (x29_1 != 4) = true := bne_iff_ne.mpr c22
           (first | rw [c22b0] | (simp only [i64_w, i32_w]; rw [c22b0]) | skip)
           by_cases c23 : x29_1 = 1
           ·rw [if_pos c23] at H
            have c23b0 : (x29_1 == 1) = true := beq_iff_eq.mpr c23
            have c23b1 : (x29_1 != 1) = false := bne_eq_false_iff_eq.mpr c23
            clear c23
            have H' := Aside0.mk H
            clear H
            go_wp2
            go_meet
            case rel => exact ⟨_, (!a0), (by first | rfl | (simp; done) | (simp [*]; done)), H', ⟨by have := HK1.out; first | omega | exact Nat.le_refl _⟩, ⟨by (with_reducible repeat (first | apply Kd.S_alloc | apply Kd.S_drewN | apply Kd.S_drew)); exact Kd.S_mono (Kd.S_far (p := ⟨gb337, 3, none⟩) (Kd.S_far (p := ⟨gb337, 2, none⟩) (Kd.S_far (p := ⟨gb337, 1, none⟩) (Kd.S_far (p := ⟨gb337, 0, none⟩) (Kd.S_types HO_7.out BK337.out (by decide)) (fun _ hk => hk.2) (.int .i64 ((rd_T24 l1 x29_1).f0))) (fun _ hk => hk.2) (.int .i64 ((rd_T24 l1 x29_1).f1))) (fun _ hk => hk.2) (.int .u32 ((rd_T24 l1 x29_1).f2))) (fun _ hk => hk.2) (.int .u32 ((rd_T24 l1 x29_1).f3))) (fun _ hk => ⟨hk.1.1, hk.1.2⟩)⟩, ⟨by (with_reducible repeat (first | apply Kd.R_alloc | apply Kd.R_drewN | apply Kd.R_drew)); exact Kd.R_mono (Kd.R_far (p := ⟨gb337, 3, none⟩) (Kd.R_far (p := ⟨gb337, 2, none⟩) (Kd.R_far (p := ⟨gb337, 1, none⟩) (Kd.R_far (p := ⟨gb337, 0, none⟩) (Kd.R_types HO_333008.out BK337.out (by decide)) (fun _ hk => hk.2) (.int .i64 ((rd_T24 l1 x29_1).f0))) (fun _ hk => hk.2) (.int .i64 ((rd_T24 l1 x29_1).f1))) (fun _ hk => hk.2) (.int .u32 ((rd_T24 l1 x29_1).f2))) (fun _ hk => hk.2) (.int .u32 ((rd_T24 l1 x29_1).f3))) (fun _ hk => trivial)⟩, ⟨by (with_reducible repeat (first | refine blk_drewN ?_ _ | refine blk_drew ?_ | refine blk_alloc ?_ _)); refine blk_far ?_ NB332_337.out _; (with_reducible repeat (first | refine blk_drewN ?_ _ | refine blk_drew ?_ | refine blk_alloc ?_ _)); refine blk_far ?_ NB332_337.out _; (with_reducible repeat (first | refine blk_drewN ?_ _ | refine blk_drew ?_ | refine blk_alloc ?_ _)); refine blk_far ?_ NB332_337.out _; (with_reducible repeat (first | refine blk_drewN ?_ _ | refine blk_drew ?_ | refine blk_alloc ?_ _)); refine blk_far ?_ NB332_337.out _; (with_reducible repeat (first | refine blk_drewN ?_ _ | refine blk_drew ?_ | refine blk_alloc ?_ _)); exact BK332.out⟩, ⟨by (with_reducible repeat (first | refine blk_drewN ?_ _ | refine blk_drew ?_ | refine blk_alloc ?_ _)); refine blk_put (cs := #[.int .i64 ((rd_T24 l1 x29_1).f0), .int .i64 ((rd_T24 l1 x29_1).f1), .int .u32 ((rd_T24 l1 x29_1).f2), .int .u32 0]) ?_ 3 _ rfl; (with_reducible repeat (first | refine blk_drewN ?_ _ | refine blk_drew ?_ | refine blk_alloc ?_ _)); refine blk_put (cs := #[.int .i64 ((rd_T24 l1 x29_1).f0), .int .i64 ((rd_T24 l1 x29_1).f1), .int .u32 0, .int .u32 0]) ?_ 2 _ rfl; (with_reducible repeat (first | refine blk_drewN ?_ _ | refine blk_drew ?_ | refine blk_alloc ?_ _)); refine blk_put (cs := #[.int .i64 ((rd_T24 l1 x29_1).f0), .int .i64 0, .int .u32 0, .int .u32 0]) ?_ 1 _ rfl; (with_reducible repeat (first | refine blk_drewN ?_ _ | refine blk_drew ?_ | refine blk_alloc ?_ _)); refine blk_put (cs := #[.int .i64 0, .int .i64 0, .int .u32 0, .int .u32 0]) ?_ 0 _ rfl; (with_reducible repeat (first | refine blk_drewN ?_ _ | refine blk_drew ?_ | refine blk_alloc ?_ _)); exact BK337.out⟩, ⟨by repeat (first | (with_reducible first | exact HB.out | apply below_alloc | apply pw_below_drewN | apply below_drew1 | refine below_set ?_ GE332.out | refine below_set ?_ GE337.out) | exact HB.out)⟩⟩
           ·rw [if_neg c23] at H
            have c23b0 : (x29_1 == 1) = false := beq_eq_false_iff_ne.mpr c23
            have c23b1 : (x29_1 != 1) = true := bne_iff_ne.mpr c23
            have H' := Aside0.mk H
            clear H
            go_wp2
            go_meet
            case rel => exact ⟨_, (false), (by first | rfl | (simp; done) | (simp [*]; done)), H', ⟨by have := HK1.out; first | omega | exact Nat.le_refl _⟩, ⟨by (with_reducible repeat (first | apply Kd.S_alloc | apply Kd.S_drewN | apply Kd.S_drew)); exact Kd.S_mono (Kd.S_far (p := ⟨gb337, 3, none⟩) (Kd.S_far (p := ⟨gb337, 2, none⟩) (Kd.S_far (p := ⟨gb337, 1, none⟩) (Kd.S_far (p := ⟨gb337, 0, none⟩) (Kd.S_types HO_7.out BK337.out (by decide)) (fun _ hk => hk.2) (.int .i64 ((rd_T24 l1 x29_1).f0))) (fun _ hk => hk.2) (.int .i64 ((rd_T24 l1 x29_1).f1))) (fun _ hk => hk.2) (.int .u32 ((rd_T24 l1 x29_1).f2))) (fun _ hk => hk.2) (.int .u32 ((rd_T24 l1 x29_1).f3))) (fun _ hk => ⟨hk.1.1, hk.1.2⟩)⟩, ⟨by (with_reducible repeat (first | apply Kd.R_alloc | apply Kd.R_drewN | apply Kd.R_drew)); exact Kd.R_mono (Kd.R_far (p := ⟨gb337, 3, none⟩) (Kd.R_far (p := ⟨gb337, 2, none⟩) (Kd.R_far (p := ⟨gb337, 1, none⟩) (Kd.R_far (p := ⟨gb337, 0, none⟩) (Kd.R_types HO_333008.out BK337.out (by decide)) (fun _ hk => hk.2) (.int .i64 ((rd_T24 l1 x29_1).f0))) (fun _ hk => hk.2) (.int .i64 ((rd_T24 l1 x29_1).f1))) (fun _ hk => hk.2) (.int .u32 ((rd_T24 l1 x29_1).f2))) (fun _ hk => hk.2) (.int .u32 ((rd_T24 l1 x29_1).f3))) (fun _ hk => trivial)⟩, ⟨by (with_reducible repeat (first | refine blk_drewN ?_ _ | refine blk_drew ?_ | refine blk_alloc ?_ _)); refine blk_far ?_ NB332_337.out _; (with_reducible repeat (first | refine blk_drewN ?_ _ | refine blk_drew ?_ | refine blk_alloc ?_ _)); refine blk_far ?_ NB332_337.out _; (with_reducible repeat (first | refine blk_drewN ?_ _ | refine blk_drew ?_ | refine blk_alloc ?_ _)); refine blk_far ?_ NB332_337.out _; (with_reducible repeat (first | refine blk_drewN ?_ _ | refine blk_drew ?_ | refine blk_alloc ?_ _)); refine blk_far ?_ NB332_337.out _; (with_reducible repeat (first | refine blk_drewN ?_ _ | refine blk_drew ?_ | refine blk_alloc ?_ _)); exact BK332.out⟩, ⟨by (with_reducible repeat (first | refine blk_drewN ?_ _ | refine blk_drew ?_ | refine blk_alloc ?_ _)); refine blk_put (cs := #[.int .i64 ((rd_T24 l1 x29_1).f0), .int .i64 ((rd_T24 l1 x29_1).f1), .int .u32 ((rd_T24 l1 x29_1).f2), .int .u32 0]) ?_ 3 _ rfl; (with_reducible repeat (first | refine blk_drewN ?_ _ | refine blk_drew ?_ | refine blk_alloc ?_ _)); refine blk_put (cs := #[.int .i64 ((rd_T24 l1 x29_1).f0), .int .i64 ((rd_T24 l1 x29_1).f1), .int .u32 0, .int .u32 0]) ?_ 2 _ rfl; (with_reducible repeat (first | refine blk_drewN ?_ _ | refine blk_drew ?_ | refine blk_alloc ?_ _)); refine blk_put (cs := #[.int .i64 ((rd_T24 l1 x29_1).f0), .int .i64 0, .int .u32 0, .int .u32 0]) ?_ 1 _ rfl; (with_reducible repeat (first | refine blk_drewN ?_ _ | refine blk_drew ?_ | refine blk_alloc ?_ _)); refine blk_put (cs := #[.int .i64 0, .int .i64 0, .int .u32 0, .int .u32 0]) ?_ 0 _ rfl; (with_reducible repeat (first | refine blk_drewN ?_ _ | refine blk_drew ?_ | refine blk_alloc ?_ _)); exact BK337.out⟩, ⟨by repeat (first | (with_reducible first | exact HB.out | apply below_alloc | apply pw_below_drewN | apply below_drew1 | refine below_set ?_ GE332.out | refine below_set ?_ GE337.out) | exact HB.out)⟩⟩
         case rest =>
          clear HC18
          try clear c1
          try clear c2
          try clear p2
          try clear p3
          try clear q3
          try clear hx3
          try clear c4
          try clear c6
          try clear c6b0
          try clear c6b1
          try clear c12
          try clear c15
          try clear c15b0
          try clear c16
          try clear c16b0
          try clear c17
          try clear c17b0
          try clear c20
          try clear c22
          try clear c22b0
          try clear c22b1
          try clear c23
          try clear c23b0
          try clear c23b1
          try clear hcz11_0
          try clear hcz11_1
          try clear hcz11_2
          try clear hcz11_3
          try clear hcz11_4
          try clear hcz11_5
          try clear hcz11_6
          try clear hcz11_7
          try clear hcz11_8
          try clear hcz21_0
          try clear hcz21_1
          try clear hcz21_2
          try clear hcz21_3
          try clear hfz11_0
          try clear hfz11_1
          try clear hfz11_2
          try clear hfz11_3
          try clear hfz11_4
          try clear hfz11_5
          try clear hfz11_6
          try clear hfz11_7
          try clear hfz11_8
          try clear hfz21_0
          try clear hfz21_1
          try clear hfz21_2
          try clear hfz21_3
          try clear hx336_0
          try clear hx336_1
          try clear hx336_2
          try clear hx336_3
          try clear p2
          try clear p336
          try clear q336
          obtain ⟨kq, x43_17, rfl, HA, HJ17, HO_7, HO_333008, BK332, BK337, HB⟩ := hcut
          cases kq with
          | zero => exact absurd HA.out (by simp [wicketgatelaw26_SignalNests.j1])
          | succ kj17 =>
           have H := HA.out
           clear HA
           simp only [wicketgatelaw26_SignalNests.j1] at H
           by_cases c24 : x43_17 = true
           ·subst c24
            have H1 : (wicketgatelaw26_SignalNests.j2 kj17 x7_1 x333000_1 x333001_1 x333002_1 x333003_1 x333004_1 x333005_1 x333006_1 x333007_1 x333008_1) = some r := by rw [if_pos rfl] at H; exact H
            clear H
            have H := H1
            clear H1
            have H' := Aside0.mk H
            clear H
            go_wp2
            go_meet
            case rel => exact ⟨_, (x7_1), (x333000_1), (x333001_1), (x333002_1), (x333003_1), (x333004_1), (x333005_1), (x333006_1), (x333007_1), (x333008_1), (u333008), H', ⟨by have := HK1.out; have := HJ17.out; first | omega | exact Nat.le_refl _⟩, ⟨by (with_reducible repeat (first | apply Kd.S_alloc | apply Kd.S_drewN | apply Kd.S_drew)); exact HO_7.out⟩, ⟨by (with_reducible repeat (first | apply Kd.R_alloc | apply Kd.R_drewN | apply Kd.R_drew)); exact HO_333008.out⟩, ⟨by (with_reducible repeat (first | refine blk_drewN ?_ _ | refine blk_drew ?_ | refine blk_alloc ?_ _)); exact BK332.out⟩, ⟨by repeat (first | (with_reducible first | exact HB.out | apply below_alloc | apply pw_below_drewN | apply below_drew1 | refine below_set ?_ GE332.out | refine below_set ?_ GE337.out) | exact HB.out)⟩⟩
           ·replace c24 := Bool.eq_false_iff.mpr c24
            subst c24
            have H1 : ((signal_Force.f x333000_1 x333001_1 x333002_1 x333003_1 x333004_1 x333005_1 x333006_1 x333007_1 x333008_1 ((rd_T24 l1 x29_1).f0) ((rd_T24 l1 x29_1).f1) ((rd_T24 l1 x29_1).f2) ((rd_T24 l1 x29_1).f3)).bind fun bt338 => (if bt338.2.2.2.2.2.2.2.2.2.2.2.2.2.2.2 = 0 then (if bt338.2.2.2.2.2.2.2.2.2.2.1 = true then (if (!(bt338.2.2.2.2.2.2.2.2.2.2.2.1 == ((rd_T24 l1 x29_1).f0)) || (!(bt338.2.2.2.2.2.2.2.2.2.2.2.2.1 == ((rd_T24 l1 x29_1).f1)) || (!(bt338.2.2.2.2.2.2.2.2.2.2.2.2.2.1 == ((rd_T24 l1 x29_1).f2)) || (!(bt338.2.2.2.2.2.2.2.2.2.2.2.2.2.2.1 == ((rd_T24 l1 x29_1).f3)))))) = true then (some false) else (if x7_1.length < 2199023255552 then (wicketgatelaw26_SignalNests.l0 kj17 a0 (x7_1 ++ [(⟨x333000_1, x333001_1, x333002_1, x333003_1, (⟨x333004_1, x333005_1, x333006_1, x333007_1⟩ : S24), x333008_1⟩ : S27)]) l1 (l1.length : Int) (wrap64 (x29_1 + 1)) bt338.1 bt338.2.1 bt338.2.2.1 bt338.2.2.2.1 bt338.2.2.2.2.1 bt338.2.2.2.2.2.1 bt338.2.2.2.2.2.2.1 bt338.2.2.2.2.2.2.2.1 bt338.2.2.2.2.2.2.2.2.1) else (none))) else (some false)) else (some false))) = some r := by rw [if_neg (show ¬ (false = true) by decide)] at H; exact H
            clear H
            have H := H1
            clear H1
            replace H := Option.bind_eq_some_iff.mp H
            obtain ⟨⟨t338, t339, t340, t341, t342, t343, t344, t345, t346, t349, t350, t351, t352, t353, t354, t355⟩, A250, H⟩ := H
            replace H : (if t355 = 0 then (if t350 = true then (if (!(t351 == ((rd_T24 l1 x29_1).f0)) || (!(t352 == ((rd_T24 l1 x29_1).f1)) || (!(t353 == ((rd_T24 l1 x29_1).f2)) || (!(t354 == ((rd_T24 l1 x29_1).f3)))))) = true then (some false) else (if x7_1.length < 2199023255552 then (wicketgatelaw26_SignalNests.l0 kj17 a0 (x7_1 ++ [(⟨x333000_1, x333001_1, x333002_1, x333003_1, (⟨x333004_1, x333005_1, x333006_1, x333007_1⟩ : S24), x333008_1⟩ : S27)]) l1 (l1.length : Int) (wrap64 (x29_1 + 1)) t338 t339 t340 t341 t342 t343 t344 t345 t346) else (none))) else (some false)) else (some false)) = some r := H
            have A25 := Aside0.mk A250
            clear A250
            by_cases c26 : t355 = 0
            ·rw [if_pos c26] at H
             have c26b0 : (t355 == 0) = true := beq_iff_eq.mpr c26
             have c26b1 : (t355 != 0) = false := bne_eq_false_iff_eq.mpr c26
             clear c26
             by_cases c27 : t350 = true
             ·subst c27
              have H1 : (if (!(t351 == ((rd_T24 l1 x29_1).f0)) || (!(t352 == ((rd_T24 l1 x29_1).f1)) || (!(t353 == ((rd_T24 l1 x29_1).f2)) || (!(t354 == ((rd_T24 l1 x29_1).f3)))))) = true then (some false) else (if x7_1.length < 2199023255552 then (wicketgatelaw26_SignalNests.l0 kj17 a0 (x7_1 ++ [(⟨x333000_1, x333001_1, x333002_1, x333003_1, (⟨x333004_1, x333005_1, x333006_1, x333007_1⟩ : S24), x333008_1⟩ : S27)]) l1 (l1.length : Int) (wrap64 (x29_1 + 1)) t338 t339 t340 t341 t342 t343 t344 t345 t346) else (none))) = some r := by rw [if_pos rfl] at H; exact H
              clear H
              have H := H1
              clear H1
              by_cases c28 : (!(t351 == ((rd_T24 l1 x29_1).f0)) || (!(t352 == ((rd_T24 l1 x29_1).f1)) || (!(t353 == ((rd_T24 l1 x29_1).f2)) || (!(t354 == ((rd_T24 l1 x29_1).f3)))))) = true
              ·rw [if_pos c28] at H
               have c28b0 : (!(t351 == ((rd_T24 l1 x29_1).f0)) || (!(t352 == ((rd_T24 l1 x29_1).f1)) || (!(t353 == ((rd_T24 l1 x29_1).f2)) || (!(t354 == ((rd_T24 l1 x29_1).f3)))))) = true := c28
               clear c28
               exact absurd ((Option.some.inj H).trans HRr.out) (by simp)
              ·rw [if_neg c28] at H
               have c28b0 : (!(t351 == ((rd_T24 l1 x29_1).f0)) || (!(t352 == ((rd_T24 l1 x29_1).f1)) || (!(t353 == ((rd_T24 l1 x29_1).f2)) || (!(t354 == ((rd_T24 l1 x29_1).f3)))))) = false := by simpa using c28
               clear c28
               by_cases c29 : x7_1.length < 2199023255552
               ·rw [if_pos c29] at H
                have LMc29 := Aside0.mk c29
                clear c29
                obtain ⟨y358, hy358⟩ : ∃ y_ : List (S27), y_ = (x7_1 ++ [(⟨x333000_1, x333001_1, x333002_1, x333003_1, (⟨x333004_1, x333005_1, x333006_1, x333007_1⟩ : S24), x333008_1⟩ : S27)]) := ⟨_, rfl⟩
                replace H : (wicketgatelaw26_SignalNests.l0 kj17 a0 y358 l1 (l1.length : Int) (wrap64 (x29_1 + 1)) t338 t339 t340 t341 t342 t343 t344 t345 t346) = some r := by first | (rw [hy358]; with_reducible exact H) | (have H2_ := (Option.bind_some _ _).symm.trans H; rw [hy358]; with_reducible exact H2_) | (have H2_ := (Option.bind_some _ _).symm.trans H; with_reducible exact H2_) | with_reducible exact H | (rw [hy358]; exact H) | exact H
                have Ny358 := Aside0.mk hy358
                clear hy358
                have H' := Aside0.mk H
                clear H
                have hnb30 := NB332_337.out
                have hnc30 := NB337_332.out
                have hcz31_0 : wc.cell? ⟨gb332, 0, none⟩ = some (.int .i64 x333000_1) := (blk_cell BK332.out 0).trans rfl
                have hcz31_1 : wc.cell? ⟨gb332, 1, none⟩ = some (.bool x333001_1) := (blk_cell BK332.out 1).trans rfl
                have hcz31_2 : wc.cell? ⟨gb332, 2, none⟩ = some (.bool x333002_1) := (blk_cell BK332.out 2).trans rfl
                have hcz31_3 : wc.cell? ⟨gb332, 3, none⟩ = some (.bool x333003_1) := (blk_cell BK332.out 3).trans rfl
                have hcz31_4 : wc.cell? ⟨gb332, 4, none⟩ = some (.int .i64 x333004_1) := (blk_cell BK332.out 4).trans rfl
                have hcz31_5 : wc.cell? ⟨gb332, 5, none⟩ = some (.int .i64 x333005_1) := (blk_cell BK332.out 5).trans rfl
                have hcz31_6 : wc.cell? ⟨gb332, 6, none⟩ = some (.int .u32 x333006_1) := (blk_cell BK332.out 6).trans rfl
                have hcz31_7 : wc.cell? ⟨gb332, 7, none⟩ = some (.int .u32 x333007_1) := (blk_cell BK332.out 7).trans rfl
                have hcz31_8 : wc.cell? ⟨gb332, 8, none⟩ = some (u333008) := (blk_cell BK332.out 8).trans rfl
                have hfz31_0 := blk_frozen BK332.out 0
                have hfz31_1 := blk_frozen BK332.out 1
                have hfz31_2 := blk_frozen BK332.out 2
                have hfz31_3 := blk_frozen BK332.out 3
                have hfz31_4 := blk_frozen BK332.out 4
                have hfz31_5 := blk_frozen BK332.out 5
                have hfz31_6 := blk_frozen BK332.out 6
                have hfz31_7 := blk_frozen BK332.out 7
                have hfz31_8 := blk_frozen BK332.out 8
                have hcz32_0 : wc.cell? ⟨gb337, 0, none⟩ = some (.int .i64 ((rd_T24 l1 x29_1).f0)) := (blk_cell BK337.out 0).trans rfl
                have hcz32_1 : wc.cell? ⟨gb337, 1, none⟩ = some (.int .i64 ((rd_T24 l1 x29_1).f1)) := (blk_cell BK337.out 1).trans rfl
                have hcz32_2 : wc.cell? ⟨gb337, 2, none⟩ = some (.int .u32 ((rd_T24 l1 x29_1).f2)) := (blk_cell BK337.out 2).trans rfl
                have hcz32_3 : wc.cell? ⟨gb337, 3, none⟩ = some (.int .u32 ((rd_T24 l1 x29_1).f3)) := (blk_cell BK337.out 3).trans rfl
                have hfz32_0 := blk_frozen BK337.out 0
                have hfz32_1 := blk_frozen BK337.out 1
                have hfz32_2 := blk_frozen BK337.out 2
                have hfz32_3 := blk_frozen BK337.out 3
                obtain ⟨Ao33, co33, eo33⟩ := Kd.R_slice HO_333008.out
                subst eo33
                go_wp2_with (first | ((with_reducible refine gate_callee (f := 13) rfl ?_); refine goesL_ (some 47) rfl rfl Try.func13 (by kernel_rfl) rfl #[.agg #[.int .i64 x333000_1, .bool x333001_1, .bool x333002_1, .bool x333003_1, .int .i64 x333004_1, .int .i64 x333005_1, .int .u32 x333006_1, .int .u32 x333007_1, .slice Ao33 x333008_1.length co33], .agg #[.int .i64 ((rd_T24 l1 x29_1).f0), .int .i64 ((rd_T24 l1 x29_1).f1), .int .u32 ((rd_T24 l1 x29_1).f2), .int .u32 ((rd_T24 l1 x29_1).f3)]] rfl (by (try simp only [List.map_toArray, List.map_cons, List.map_nil]); first | done | rfl | (simp only [List.length_drop, List.length_take]; rfl)) ?_; (with_reducible refine (signal_Force.calls x333000_1 x333001_1 x333002_1 x333003_1 x333004_1 x333005_1 x333006_1 x333007_1 _ _ x333008_1 ((rd_T24 l1 x29_1).f0) ((rd_T24 l1 x29_1).f1) ((rd_T24 l1 x29_1).f2) ((rd_T24 l1 x29_1).f3) t338 t339 t340 t341 t342 t343 t344 t345 t346 t349 true t351 t352 t353 t354 t355 _ ?side1 ?side2 A25.out).mono ?_); (case side1 => repeat (first | exact (Kd.R_reads' HO_333008.out).2.2 | (with_reducible refine Kd.C_alloc ?_ _) | (with_reducible refine Kd.C_drewN ?_ _) | (with_reducible refine Kd.C_drew ?_))); (case side2 => exact (Kd.R_reads' HO_333008.out).2.1); rintro e w34 ⟨v347, rfl, ho0, hb⟩; refine ⟨_, rfl, ?_⟩; have n0_ := Aside0.mk (Kd.S_elder' (by (with_reducible repeat (first | apply Kd.S_alloc | apply Kd.S_drewN | apply Kd.S_drew)); exact HO_7.out) (Kd.R_base ho0) hb); have n1_ := Aside0.mk (Kd.R_elder' (by (with_reducible repeat (first | apply Kd.R_alloc | apply Kd.R_drewN | apply Kd.R_drew)); exact HO_333008.out) (Kd.R_base ho0) hb); have n2_ := Aside0.mk (Kd.R_lower (Kd.R_new' ho0 (Kd.R_lt (by (with_reducible repeat (first | apply Kd.R_alloc | apply Kd.R_drewN | apply Kd.R_drew)); exact HO_333008.out))) (below_size (by repeat (first | (with_reducible first | exact HB.out | apply below_alloc | apply pw_below_drewN | apply below_drew1 | refine below_set ?_ GE332.out | refine below_set ?_ GE337.out) | exact HB.out)))); have n3_ := Aside0.mk (blk_below (g := gb332) (o := .cells #[.int .i64 x333000_1, .bool x333001_1, .bool x333002_1, .bool x333003_1, .int .i64 x333004_1, .int .i64 x333005_1, .int .u32 x333006_1, .int .u32 x333007_1, .slice Ao33 x333008_1.length co33] 27 (0, 0)) (by (with_reducible repeat (first | refine blk_drewN ?_ _ | refine blk_drew ?_ | refine blk_alloc ?_ _)); exact BK332.out) hb); have n4_ := Aside0.mk (blk_below (g := gb337) (o := .cells #[.int .i64 ((rd_T24 l1 x29_1).f0), .int .i64 ((rd_T24 l1 x29_1).f1), .int .u32 ((rd_T24 l1 x29_1).f2), .int .u32 ((rd_T24 l1 x29_1).f3)] 24 (0, 0)) (by (with_reducible repeat (first | refine blk_drewN ?_ _ | refine blk_drew ?_ | refine blk_alloc ?_ _)); exact BK337.out) hb); have n5_ := Aside0.mk (below_step (by repeat (first | (with_reducible first | exact HB.out | apply below_alloc | apply pw_below_drewN | apply below_drew1 | refine below_set ?_ GE332.out | refine below_set ?_ GE337.out) | exact HB.out)) hb); clear HO_7; clear HO_333008; clear BK332; clear BK337; clear HB; have HO_7 := n0_; have HO_333008 := n1_; have HO348 := n2_; have BK332 := n3_; have BK337 := n4_; have HB := n5_; clear n0_ n1_ n2_ n3_ n4_ n5_; (try clear hb); (try clear hb2); (try clear hk); (try clear hi); (try clear ho0)) | ((with_reducible refine gate_dst (N := 10) rfl ?_); (try (refine gate_guard (by rfl) ?_; dsimp only)); refine box_event ?hg (N := 10) ?hd (cs := #[.int .i64 0, .bool false, .bool false, .bool false, .int .i64 0, .int .i64 0, .int .u32 0, .int .u32 0, .slice none 0 0]) (t := 27) ?hr ?_; (case hd => rfl); (case hg => rfl); (case hr => first | (go_simp; done) | (go_simp; rfl)); intro gb356 hg w35 hbox hb; have n0_ := Aside0.mk (Kd.S_below (Kd.S_elderB (by (with_reducible repeat (first | apply Kd.S_alloc | apply Kd.S_drewN | apply Kd.S_drew)); exact HO_7.out) gb356 (Nat.le_of_eq hg.symm)) hb); have n1_ := Aside0.mk (Kd.R_below (by (with_reducible repeat (first | apply Kd.R_alloc | apply Kd.R_drewN | apply Kd.R_drew)); exact HO_333008.out) hb); have n2_ := Aside0.mk (Kd.R_below (by (with_reducible repeat (first | apply Kd.R_alloc | apply Kd.R_drewN | apply Kd.R_drew)); exact HO348.out) hb); have n3_ := Aside0.mk (blk_below (g := gb332) (o := .cells #[.int .i64 x333000_1, .bool x333001_1, .bool x333002_1, .bool x333003_1, .int .i64 x333004_1, .int .i64 x333005_1, .int .u32 x333006_1, .int .u32 x333007_1, .slice Ao33 x333008_1.length co33] 27 (0, 0)) (by (with_reducible repeat (first | refine blk_drewN ?_ _ | refine blk_drew ?_ | refine blk_alloc ?_ _)); exact BK332.out) hb); have n4_ := Aside0.mk (blk_below (g := gb337) (o := .cells #[.int .i64 ((rd_T24 l1 x29_1).f0), .int .i64 ((rd_T24 l1 x29_1).f1), .int .u32 ((rd_T24 l1 x29_1).f2), .int .u32 ((rd_T24 l1 x29_1).f3)] 24 (0, 0)) (by (with_reducible repeat (first | refine blk_drewN ?_ _ | refine blk_drew ?_ | refine blk_alloc ?_ _)); exact BK337.out) hb); have n5_ := Aside0.mk (below_step (by repeat (first | (with_reducible first | exact HB.out | apply below_alloc | apply pw_below_drewN | apply below_drew1 | refine below_set ?_ GE332.out | refine below_set ?_ GE337.out) | exact HB.out)) hb); have n6_ := Aside0.mk (hbox); have n7_ := Aside0.mk ((by rw [hg]; exact (below_size (by repeat (first | (with_reducible first | exact HB.out | apply below_alloc | apply pw_below_drewN | apply below_drew1 | refine below_set ?_ GE332.out | refine below_set ?_ GE337.out) | exact HB.out))) : w.heap.size ≤ gb356)); have n8_ := Aside0.mk ((by rw [hg]; exact (below_size (by repeat (first | (with_reducible first | exact HB.out | apply below_alloc | apply pw_below_drewN | apply below_drew1 | refine below_set ?_ GE332.out | refine below_set ?_ GE337.out) | exact HB.out))) : w.heap.size ≤ gb356)); have n9_ := Aside0.mk ((by rw [hg]; exact Nat.ne_of_lt (blk_lt (g := gb332) (o := .cells #[.int .i64 x333000_1, .bool x333001_1, .bool x333002_1, .bool x333003_1, .int .i64 x333004_1, .int .i64 x333005_1, .int .u32 x333006_1, .int .u32 x333007_1, .slice Ao33 x333008_1.length co33] 27 (0, 0)) (by (with_reducible repeat (first | refine blk_drewN ?_ _ | refine blk_drew ?_ | refine blk_alloc ?_ _)); exact BK332.out)) : gb332 ≠ gb356)); have n10_ := Aside0.mk ((by rw [hg]; exact Nat.ne_of_gt (blk_lt (g := gb332) (o := .cells #[.int .i64 x333000_1, .bool x333001_1, .bool x333002_1, .bool x333003_1, .int .i64 x333004_1, .int .i64 x333005_1, .int .u32 x333006_1, .int .u32 x333007_1, .slice Ao33 x333008_1.length co33] 27 (0, 0)) (by (with_reducible repeat (first | refine blk_drewN ?_ _ | refine blk_drew ?_ | refine blk_alloc ?_ _)); exact BK332.out)) : gb356 ≠ gb332)); have n11_ := Aside0.mk ((by rw [hg]; exact Nat.ne_of_lt (blk_lt (g := gb337) (o := .cells #[.int .i64 ((rd_T24 l1 x29_1).f0), .int .i64 ((rd_T24 l1 x29_1).f1), .int .u32 ((rd_T24 l1 x29_1).f2), .int .u32 ((rd_T24 l1 x29_1).f3)] 24 (0, 0)) (by (with_reducible repeat (first | refine blk_drewN ?_ _ | refine blk_drew ?_ | refine blk_alloc ?_ _)); exact BK337.out)) : gb337 ≠ gb356)); have n12_ := Aside0.mk ((by rw [hg]; exact Nat.ne_of_gt (blk_lt (g := gb337) (o := .cells #[.int .i64 ((rd_T24 l1 x29_1).f0), .int .i64 ((rd_T24 l1 x29_1).f1), .int .u32 ((rd_T24 l1 x29_1).f2), .int .u32 ((rd_T24 l1 x29_1).f3)] 24 (0, 0)) (by (with_reducible repeat (first | refine blk_drewN ?_ _ | refine blk_drew ?_ | refine blk_alloc ?_ _)); exact BK337.out)) : gb356 ≠ gb337)); clear HO_7; clear HO_333008; clear HO348; clear BK332; clear BK337; clear HB; have HO_7 := n0_; have HO_333008 := n1_; have HO348 := n2_; have BK332 := n3_; have BK337 := n4_; have HB := n5_; have BK356 := n6_; have GW356 := n7_; have GE356 := n8_; have NB332_356 := n9_; have NB356_332 := n10_; have NB337_356 := n11_; have NB356_337 := n12_; clear n0_ n1_ n2_ n3_ n4_ n5_ n6_ n7_ n8_ n9_ n10_ n11_ n12_; clear hb hbox hg) | ((with_reducible refine gate_dst (N := 11) rfl ?_); (try (refine gate_guard (by rfl) ?_; dsimp only)); refine box_event ?hg (N := 11) ?hd (cs := #[.bool false, .bool false, .int .i64 0, .int .i64 0, .int .u32 0, .int .u32 0]) (t := 33) ?hr ?_; (case hd => rfl); (case hg => rfl); (case hr => first | (go_simp; done) | (go_simp; rfl)); intro gb357 hg w36 hbox hb; have n0_ := Aside0.mk (Kd.S_below (by (with_reducible repeat (first | apply Kd.S_alloc | apply Kd.S_drewN | apply Kd.S_drew)); exact HO_7.out) hb); have n1_ := Aside0.mk (Kd.R_below (by (with_reducible repeat (first | apply Kd.R_alloc | apply Kd.R_drewN | apply Kd.R_drew)); exact HO_333008.out) hb); have n2_ := Aside0.mk (Kd.R_below (by (with_reducible repeat (first | apply Kd.R_alloc | apply Kd.R_drewN | apply Kd.R_drew)); exact HO348.out) hb); have n3_ := Aside0.mk (blk_below (g := gb332) (o := .cells #[.int .i64 x333000_1, .bool x333001_1, .bool x333002_1, .bool x333003_1, .int .i64 x333004_1, .int .i64 x333005_1, .int .u32 x333006_1, .int .u32 x333007_1, .slice Ao33 x333008_1.length co33] 27 (0, 0)) (by (with_reducible repeat (first | refine blk_drewN ?_ _ | refine blk_drew ?_ | refine blk_alloc ?_ _)); exact BK332.out) hb); have n4_ := Aside0.mk (blk_below (g := gb337) (o := .cells #[.int .i64 ((rd_T24 l1 x29_1).f0), .int .i64 ((rd_T24 l1 x29_1).f1), .int .u32 ((rd_T24 l1 x29_1).f2), .int .u32 ((rd_T24 l1 x29_1).f3)] 24 (0, 0)) (by (with_reducible repeat (first | refine blk_drewN ?_ _ | refine blk_drew ?_ | refine blk_alloc ?_ _)); exact BK337.out) hb); have n5_ := Aside0.mk (blk_below (g := gb356) (o := .cells #[.int .i64 0, .bool false, .bool false, .bool false, .int .i64 0, .int .i64 0, .int .u32 0, .int .u32 0, .slice none 0 0] 27 (0, 0)) (by (with_reducible repeat (first | refine blk_drewN ?_ _ | refine blk_drew ?_ | refine blk_alloc ?_ _)); exact BK356.out) hb); have n6_ := Aside0.mk (below_step (by repeat (first | (with_reducible first | exact HB.out | apply below_alloc | apply pw_below_drewN | apply below_drew1 | refine below_set ?_ GE332.out | refine below_set ?_ GE337.out | refine below_set ?_ GE356.out) | exact HB.out)) hb); have n7_ := Aside0.mk (hbox); have n8_ := Aside0.mk ((by rw [hg]; exact (below_size (by repeat (first | (with_reducible first | exact HB.out | apply below_alloc | apply pw_below_drewN | apply below_drew1 | refine below_set ?_ GE332.out | refine below_set ?_ GE337.out | refine below_set ?_ GE356.out) | exact HB.out))) : w.heap.size ≤ gb357)); have n9_ := Aside0.mk ((by rw [hg]; exact (below_size (by repeat (first | (with_reducible first | exact HB.out | apply below_alloc | apply pw_below_drewN | apply below_drew1 | refine below_set ?_ GE332.out | refine below_set ?_ GE337.out | refine below_set ?_ GE356.out) | exact HB.out))) : w.heap.size ≤ gb357)); have n10_ := Aside0.mk ((by rw [hg]; exact Nat.ne_of_lt (blk_lt (g := gb332) (o := .cells #[.int .i64 x333000_1, .bool x333001_1, .bool x333002_1, .bool x333003_1, .int .i64 x333004_1, .int .i64 x333005_1, .int .u32 x333006_1, .int .u32 x333007_1, .slice Ao33 x333008_1.length co33] 27 (0, 0)) (by (with_reducible repeat (first | refine blk_drewN ?_ _ | refine blk_drew ?_ | refine blk_alloc ?_ _)); exact BK332.out)) : gb332 ≠ gb357)); have n11_ := Aside0.mk ((by rw [hg]; exact Nat.ne_of_gt (blk_lt (g := gb332) (o := .cells #[.int .i64 x333000_1, .bool x333001_1, .bool x333002_1, .bool x333003_1, .int .i64 x333004_1, .int .i64 x333005_1, .int .u32 x333006_1, .int .u32 x333007_1, .slice Ao33 x333008_1.length co33] 27 (0, 0)) (by (with_reducible repeat (first | refine blk_drewN ?_ _ | refine blk_drew ?_ | refine blk_alloc ?_ _)); exact BK332.out)) : gb357 ≠ gb332)); have n12_ := Aside0.mk ((by rw [hg]; exact Nat.ne_of_lt (blk_lt (g := gb337) (o := .cells #[.int .i64 ((rd_T24 l1 x29_1).f0), .int .i64 ((rd_T24 l1 x29_1).f1), .int .u32 ((rd_T24 l1 x29_1).f2), .int .u32 ((rd_T24 l1 x29_1).f3)] 24 (0, 0)) (by (with_reducible repeat (first | refine blk_drewN ?_ _ | refine blk_drew ?_ | refine blk_alloc ?_ _)); exact BK337.out)) : gb337 ≠ gb357)); have n13_ := Aside0.mk ((by rw [hg]; exact Nat.ne_of_gt (blk_lt (g := gb337) (o := .cells #[.int .i64 ((rd_T24 l1 x29_1).f0), .int .i64 ((rd_T24 l1 x29_1).f1), .int .u32 ((rd_T24 l1 x29_1).f2), .int .u32 ((rd_T24 l1 x29_1).f3)] 24 (0, 0)) (by (with_reducible repeat (first | refine blk_drewN ?_ _ | refine blk_drew ?_ | refine blk_alloc ?_ _)); exact BK337.out)) : gb357 ≠ gb337)); have n14_ := Aside0.mk ((by rw [hg]; exact Nat.ne_of_lt (blk_lt (g := gb356) (o := .cells #[.int .i64 0, .bool false, .bool false, .bool false, .int .i64 0, .int .i64 0, .int .u32 0, .int .u32 0, .slice none 0 0] 27 (0, 0)) (by (with_reducible repeat (first | refine blk_drewN ?_ _ | refine blk_drew ?_ | refine blk_alloc ?_ _)); exact BK356.out)) : gb356 ≠ gb357)); have n15_ := Aside0.mk ((by rw [hg]; exact Nat.ne_of_gt (blk_lt (g := gb356) (o := .cells #[.int .i64 0, .bool false, .bool false, .bool false, .int .i64 0, .int .i64 0, .int .u32 0, .int .u32 0, .slice none 0 0] 27 (0, 0)) (by (with_reducible repeat (first | refine blk_drewN ?_ _ | refine blk_drew ?_ | refine blk_alloc ?_ _)); exact BK356.out)) : gb357 ≠ gb356)); clear HO_7; clear HO_333008; clear HO348; clear BK332; clear BK337; clear BK356; clear HB; have HO_7 := n0_; have HO_333008 := n1_; have HO348 := n2_; have BK332 := n3_; have BK337 := n4_; have BK356 := n5_; have HB := n6_; have BK357 := n7_; have GW357 := n8_; have GE357 := n9_; have NB332_357 := n10_; have NB357_332 := n11_; have NB337_357 := n12_; have NB357_337 := n13_; have NB356_357 := n14_; have NB357_356 := n15_; clear n0_ n1_ n2_ n3_ n4_ n5_ n6_ n7_ n8_ n9_ n10_ n11_ n12_ n13_ n14_ n15_; clear hb hbox hg; have hnb37 := NB356_332.out; have hnc37 := NB332_356.out; have hnb38 := NB356_337.out; have hnc38 := NB337_356.out; have hnb39 := NB356_357.out; have hnc39 := NB357_356.out; have hcz40_0 : w36.cell? ⟨gb356, 0, none⟩ = some (.int .i64 0) := (blk_cell BK356.out 0).trans rfl; have hcz40_1 : w36.cell? ⟨gb356, 1, none⟩ = some (.bool false) := (blk_cell BK356.out 1).trans rfl; have hcz40_2 : w36.cell? ⟨gb356, 2, none⟩ = some (.bool false) := (blk_cell BK356.out 2).trans rfl; have hcz40_3 : w36.cell? ⟨gb356, 3, none⟩ = some (.bool false) := (blk_cell BK356.out 3).trans rfl; have hcz40_4 : w36.cell? ⟨gb356, 4, none⟩ = some (.int .i64 0) := (blk_cell BK356.out 4).trans rfl; have hcz40_5 : w36.cell? ⟨gb356, 5, none⟩ = some (.int .i64 0) := (blk_cell BK356.out 5).trans rfl; have hcz40_6 : w36.cell? ⟨gb356, 6, none⟩ = some (.int .u32 0) := (blk_cell BK356.out 6).trans rfl; have hcz40_7 : w36.cell? ⟨gb356, 7, none⟩ = some (.int .u32 0) := (blk_cell BK356.out 7).trans rfl; have hcz40_8 : w36.cell? ⟨gb356, 8, none⟩ = some (.slice none 0 0) := (blk_cell BK356.out 8).trans rfl; have hfz40_0 := blk_frozen BK356.out 0; have hfz40_1 := blk_frozen BK356.out 1; have hfz40_2 := blk_frozen BK356.out 2; have hfz40_3 := blk_frozen BK356.out 3; have hfz40_4 := blk_frozen BK356.out 4; have hfz40_5 := blk_frozen BK356.out 5; have hfz40_6 := blk_frozen BK356.out 6; have hfz40_7 := blk_frozen BK356.out 7; have hfz40_8 := blk_frozen BK356.out 8; obtain ⟨Ao41, co41, eo41⟩ := Kd.R_slice HO348.out; subst eo41) | ((with_reducible refine gate_store (t := 27) (p := 10) rfl ?_); refine store_event (t := 27) (p := 10) (v := ?vo_w42) (w1 := (((((((((w36.setCell ⟨gb356, 0, none⟩ (.int .i64 t338)).setCell ⟨gb356, 1, none⟩ (.bool t339)).setCell ⟨gb356, 2, none⟩ (.bool t340)).setCell ⟨gb356, 3, none⟩ (.bool t341)).setCell ⟨gb356, 4, none⟩ (.int .i64 t342)).setCell ⟨gb356, 5, none⟩ (.int .i64 t343)).setCell ⟨gb356, 6, none⟩ (.int .u32 t344)).setCell ⟨gb356, 7, none⟩ (.int .u32 t345)).setCell ⟨gb356, 8, none⟩ (.slice Ao41 t346.length co41))) ?hg ?ho ?hn ?hr ?_; (case ho => rfl); (case hg => rfl); (case hn => rfl); (case hr => first | (go_simp; done) | (go_simp; rfl)); intro w42 hw; have n0_ : Aside0 (Kd.S k27 27 w42 w.heap.size (fun k_ => some k_ ≠ (.slice Ao33 x333008_1.length co33 : Value).ownBlock ∧ some k_ ≠ (.slice Ao41 t346.length co41 : Value).ownBlock ∧ k_ ≠ gb332 ∧ k_ ≠ gb356) u7 x7_1) := ⟨(by rw [hw]; exact (by (with_reducible repeat (first | apply Kd.S_alloc | apply Kd.S_drewN | apply Kd.S_drew)); exact Kd.S_mono (Kd.S_far (p := ⟨gb356, 8, none⟩) (Kd.S_far (p := ⟨gb356, 7, none⟩) (Kd.S_far (p := ⟨gb356, 6, none⟩) (Kd.S_far (p := ⟨gb356, 5, none⟩) (Kd.S_far (p := ⟨gb356, 4, none⟩) (Kd.S_far (p := ⟨gb356, 3, none⟩) (Kd.S_far (p := ⟨gb356, 2, none⟩) (Kd.S_far (p := ⟨gb356, 1, none⟩) (Kd.S_far (p := ⟨gb356, 0, none⟩) (Kd.S_mono HO_7.out (fun k_ hk => (⟨hk, hk.2⟩ : _ ∧ k_ ≠ gb356))) (fun _ hk => hk.2) (.int .i64 t338)) (fun _ hk => hk.2) (.bool t339)) (fun _ hk => hk.2) (.bool t340)) (fun _ hk => hk.2) (.bool t341)) (fun _ hk => hk.2) (.int .i64 t342)) (fun _ hk => hk.2) (.int .i64 t343)) (fun _ hk => hk.2) (.int .u32 t344)) (fun _ hk => hk.2) (.int .u32 t345)) (fun _ hk => hk.2) (.slice Ao41 t346.length co41)) (fun _ hk => ⟨hk.1.1.1.1, ⟨hk.1.1.2, ⟨hk.1.1.1.2, hk.1.2⟩⟩⟩)))⟩; have n1_ : Aside0 (Kd.R Kd.bool 4 w42 w.heap.size (fun k_ => some k_ ≠ (.slice Ao41 t346.length co41 : Value).ownBlock) (.slice Ao33 x333008_1.length co33) x333008_1) := ⟨(by rw [hw]; exact (by (with_reducible repeat (first | apply Kd.R_alloc | apply Kd.R_drewN | apply Kd.R_drew)); exact Kd.R_mono (Kd.R_far (p := ⟨gb356, 8, none⟩) (Kd.R_far (p := ⟨gb356, 7, none⟩) (Kd.R_far (p := ⟨gb356, 6, none⟩) (Kd.R_far (p := ⟨gb356, 5, none⟩) (Kd.R_far (p := ⟨gb356, 4, none⟩) (Kd.R_far (p := ⟨gb356, 3, none⟩) (Kd.R_far (p := ⟨gb356, 2, none⟩) (Kd.R_far (p := ⟨gb356, 1, none⟩) (Kd.R_far (p := ⟨gb356, 0, none⟩) (Kd.R_types HO_333008.out BK356.out (by decide)) (fun _ hk => hk.2) (.int .i64 t338)) (fun _ hk => hk.2) (.bool t339)) (fun _ hk => hk.2) (.bool t340)) (fun _ hk => hk.2) (.bool t341)) (fun _ hk => hk.2) (.int .i64 t342)) (fun _ hk => hk.2) (.int .i64 t343)) (fun _ hk => hk.2) (.int .u32 t344)) (fun _ hk => hk.2) (.int .u32 t345)) (fun _ hk => hk.2) (.slice Ao41 t346.length co41)) (fun _ hk => hk.1.2)))⟩; have n2_ : Aside0 (Kd.R Kd.bool 4 w42 w.heap.size (fun k_ => some k_ ≠ (.slice Ao33 x333008_1.length co33 : Value).ownBlock) (.slice Ao41 t346.length co41) t346) := ⟨(by rw [hw]; exact (by (with_reducible repeat (first | apply Kd.R_alloc | apply Kd.R_drewN | apply Kd.R_drew)); exact Kd.R_mono (Kd.R_far (p := ⟨gb356, 8, none⟩) (Kd.R_far (p := ⟨gb356, 7, none⟩) (Kd.R_far (p := ⟨gb356, 6, none⟩) (Kd.R_far (p := ⟨gb356, 5, none⟩) (Kd.R_far (p := ⟨gb356, 4, none⟩) (Kd.R_far (p := ⟨gb356, 3, none⟩) (Kd.R_far (p := ⟨gb356, 2, none⟩) (Kd.R_far (p := ⟨gb356, 1, none⟩) (Kd.R_far (p := ⟨gb356, 0, none⟩) (Kd.R_types HO348.out BK356.out (by decide)) (fun _ hk => hk.2) (.int .i64 t338)) (fun _ hk => hk.2) (.bool t339)) (fun _ hk => hk.2) (.bool t340)) (fun _ hk => hk.2) (.bool t341)) (fun _ hk => hk.2) (.int .i64 t342)) (fun _ hk => hk.2) (.int .i64 t343)) (fun _ hk => hk.2) (.int .u32 t344)) (fun _ hk => hk.2) (.int .u32 t345)) (fun _ hk => hk.2) (.slice Ao41 t346.length co41)) (fun _ hk => hk.1.2)))⟩; have n3_ : Aside0 (w42.heap[gb332]? = some (.cells #[.int .i64 x333000_1, .bool x333001_1, .bool x333002_1, .bool x333003_1, .int .i64 x333004_1, .int .i64 x333005_1, .int .u32 x333006_1, .int .u32 x333007_1, .slice Ao33 x333008_1.length co33] 27 (0, 0))) := ⟨(by rw [hw]; exact (by (with_reducible repeat (first | refine blk_drewN ?_ _ | refine blk_drew ?_ | refine blk_alloc ?_ _)); refine blk_far ?_ NB332_356.out _; (with_reducible repeat (first | refine blk_drewN ?_ _ | refine blk_drew ?_ | refine blk_alloc ?_ _)); refine blk_far ?_ NB332_356.out _; (with_reducible repeat (first | refine blk_drewN ?_ _ | refine blk_drew ?_ | refine blk_alloc ?_ _)); refine blk_far ?_ NB332_356.out _; (with_reducible repeat (first | refine blk_drewN ?_ _ | refine blk_drew ?_ | refine blk_alloc ?_ _)); refine blk_far ?_ NB332_356.out _; (with_reducible repeat (first | refine blk_drewN ?_ _ | refine blk_drew ?_ | refine blk_alloc ?_ _)); refine blk_far ?_ NB332_356.out _; (with_reducible repeat (first | refine blk_drewN ?_ _ | refine blk_drew ?_ | refine blk_alloc ?_ _)); refine blk_far ?_ NB332_356.out _; (with_reducible repeat (first | refine blk_drewN ?_ _ | refine blk_drew ?_ | refine blk_alloc ?_ _)); refine blk_far ?_ NB332_356.out _; (with_reducible repeat (first | refine blk_drewN ?_ _ | refine blk_drew ?_ | refine blk_alloc ?_ _)); refine blk_far ?_ NB332_356.out _; (with_reducible repeat (first | refine blk_drewN ?_ _ | refine blk_drew ?_ | refine blk_alloc ?_ _)); refine blk_far ?_ NB332_356.out _; (with_reducible repeat (first | refine blk_drewN ?_ _ | refine blk_drew ?_ | refine blk_alloc ?_ _)); exact BK332.out))⟩; have n4_ : Aside0 (w42.heap[gb337]? = some (.cells #[.int .i64 ((rd_T24 l1 x29_1).f0), .int .i64 ((rd_T24 l1 x29_1).f1), .int .u32 ((rd_T24 l1 x29_1).f2), .int .u32 ((rd_T24 l1 x29_1).f3)] 24 (0, 0))) := ⟨(by rw [hw]; exact (by (with_reducible repeat (first | refine blk_drewN ?_ _ | refine blk_drew ?_ | refine blk_alloc ?_ _)); refine blk_far ?_ NB337_356.out _; (with_reducible repeat (first | refine blk_drewN ?_ _ | refine blk_drew ?_ | refine blk_alloc ?_ _)); refine blk_far ?_ NB337_356.out _; (with_reducible repeat (first | refine blk_drewN ?_ _ | refine blk_drew ?_ | refine blk_alloc ?_ _)); refine blk_far ?_ NB337_356.out _; (with_reducible repeat (first | refine blk_drewN ?_ _ | refine blk_drew ?_ | refine blk_alloc ?_ _)); refine blk_far ?_ NB337_356.out _; (with_reducible repeat (first | refine blk_drewN ?_ _ | refine blk_drew ?_ | refine blk_alloc ?_ _)); refine blk_far ?_ NB337_356.out _; (with_reducible repeat (first | refine blk_drewN ?_ _ | refine blk_drew ?_ | refine blk_alloc ?_ _)); refine blk_far ?_ NB337_356.out _; (with_reducible repeat (first | refine blk_drewN ?_ _ | refine blk_drew ?_ | refine blk_alloc ?_ _)); refine blk_far ?_ NB337_356.out _; (with_reducible repeat (first | refine blk_drewN ?_ _ | refine blk_drew ?_ | refine blk_alloc ?_ _)); refine blk_far ?_ NB337_356.out _; (with_reducible repeat (first | refine blk_drewN ?_ _ | refine blk_drew ?_ | refine blk_alloc ?_ _)); refine blk_far ?_ NB337_356.out _; (with_reducible repeat (first | refine blk_drewN ?_ _ | refine blk_drew ?_ | refine blk_alloc ?_ _)); exact BK337.out))⟩; have n5_ : Aside0 (w42.heap[gb356]? = some (.cells #[.int .i64 t338, .bool t339, .bool t340, .bool t341, .int .i64 t342, .int .i64 t343, .int .u32 t344, .int .u32 t345, .slice Ao41 t346.length co41] 27 (0, 0))) := ⟨(by rw [hw]; exact (by (with_reducible repeat (first | refine blk_drewN ?_ _ | refine blk_drew ?_ | refine blk_alloc ?_ _)); refine blk_put (cs := #[.int .i64 t338, .bool t339, .bool t340, .bool t341, .int .i64 t342, .int .i64 t343, .int .u32 t344, .int .u32 t345, .slice none 0 0]) ?_ 8 _ rfl; (with_reducible repeat (first | refine blk_drewN ?_ _ | refine blk_drew ?_ | refine blk_alloc ?_ _)); refine blk_put (cs := #[.int .i64 t338, .bool t339, .bool t340, .bool t341, .int .i64 t342, .int .i64 t343, .int .u32 t344, .int .u32 0, .slice none 0 0]) ?_ 7 _ rfl; (with_reducible repeat (first | refine blk_drewN ?_ _ | refine blk_drew ?_ | refine blk_alloc ?_ _)); refine blk_put (cs := #[.int .i64 t338, .bool t339, .bool t340, .bool t341, .int .i64 t342, .int .i64 t343, .int .u32 0, .int .u32 0, .slice none 0 0]) ?_ 6 _ rfl; (with_reducible repeat (first | refine blk_drewN ?_ _ | refine blk_drew ?_ | refine blk_alloc ?_ _)); refine blk_put (cs := #[.int .i64 t338, .bool t339, .bool t340, .bool t341, .int .i64 t342, .int .i64 0, .int .u32 0, .int .u32 0, .slice none 0 0]) ?_ 5 _ rfl; (with_reducible repeat (first | refine blk_drewN ?_ _ | refine blk_drew ?_ | refine blk_alloc ?_ _)); refine blk_put (cs := #[.int .i64 t338, .bool t339, .bool t340, .bool t341, .int .i64 0, .int .i64 0, .int .u32 0, .int .u32 0, .slice none 0 0]) ?_ 4 _ rfl; (with_reducible repeat (first | refine blk_drewN ?_ _ | refine blk_drew ?_ | refine blk_alloc ?_ _)); refine blk_put (cs := #[.int .i64 t338, .bool t339, .bool t340, .bool false, .int .i64 0, .int .i64 0, .int .u32 0, .int .u32 0, .slice none 0 0]) ?_ 3 _ rfl; (with_reducible repeat (first | refine blk_drewN ?_ _ | refine blk_drew ?_ | refine blk_alloc ?_ _)); refine blk_put (cs := #[.int .i64 t338, .bool t339, .bool false, .bool false, .int .i64 0, .int .i64 0, .int .u32 0, .int .u32 0, .slice none 0 0]) ?_ 2 _ rfl; (with_reducible repeat (first | refine blk_drewN ?_ _ | refine blk_drew ?_ | refine blk_alloc ?_ _)); refine blk_put (cs := #[.int .i64 t338, .bool false, .bool false, .bool false, .int .i64 0, .int .i64 0, .int .u32 0, .int .u32 0, .slice none 0 0]) ?_ 1 _ rfl; (with_reducible repeat (first | refine blk_drewN ?_ _ | refine blk_drew ?_ | refine blk_alloc ?_ _)); refine blk_put (cs := #[.int .i64 0, .bool false, .bool false, .bool false, .int .i64 0, .int .i64 0, .int .u32 0, .int .u32 0, .slice none 0 0]) ?_ 0 _ rfl; (with_reducible repeat (first | refine blk_drewN ?_ _ | refine blk_drew ?_ | refine blk_alloc ?_ _)); exact BK356.out))⟩; have n6_ : Aside0 (w42.heap[gb357]? = some (.cells #[.bool false, .bool false, .int .i64 0, .int .i64 0, .int .u32 0, .int .u32 0] 33 (0, 0))) := ⟨(by rw [hw]; exact (by (with_reducible repeat (first | refine blk_drewN ?_ _ | refine blk_drew ?_ | refine blk_alloc ?_ _)); refine blk_far ?_ NB357_356.out _; (with_reducible repeat (first | refine blk_drewN ?_ _ | refine blk_drew ?_ | refine blk_alloc ?_ _)); refine blk_far ?_ NB357_356.out _; (with_reducible repeat (first | refine blk_drewN ?_ _ | refine blk_drew ?_ | refine blk_alloc ?_ _)); refine blk_far ?_ NB357_356.out _; (with_reducible repeat (first | refine blk_drewN ?_ _ | refine blk_drew ?_ | refine blk_alloc ?_ _)); refine blk_far ?_ NB357_356.out _; (with_reducible repeat (first | refine blk_drewN ?_ _ | refine blk_drew ?_ | refine blk_alloc ?_ _)); refine blk_far ?_ NB357_356.out _; (with_reducible repeat (first | refine blk_drewN ?_ _ | refine blk_drew ?_ | refine blk_alloc ?_ _)); refine blk_far ?_ NB357_356.out _; (with_reducible repeat (first | refine blk_drewN ?_ _ | refine blk_drew ?_ | refine blk_alloc ?_ _)); refine blk_far ?_ NB357_356.out _; (with_reducible repeat (first | refine blk_drewN ?_ _ | refine blk_drew ?_ | refine blk_alloc ?_ _)); refine blk_far ?_ NB357_356.out _; (with_reducible repeat (first | refine blk_drewN ?_ _ | refine blk_drew ?_ | refine blk_alloc ?_ _)); refine blk_far ?_ NB357_356.out _; (with_reducible repeat (first | refine blk_drewN ?_ _ | refine blk_drew ?_ | refine blk_alloc ?_ _)); exact BK357.out))⟩; have n7_ : Aside0 (Below w.heap.size w w42) := ⟨(by rw [hw]; exact (by repeat (first | (with_reducible first | exact HB.out | apply below_alloc | apply pw_below_drewN | apply below_drew1 | refine below_set ?_ GE332.out | refine below_set ?_ GE337.out | refine below_set ?_ GE356.out | refine below_set ?_ GE357.out) | exact HB.out)))⟩; clear hw; clear HO_7; clear HO_333008; clear HO348; clear BK332; clear BK337; clear BK356; clear BK357; clear HB; have HO_7 := n0_; have HO_333008 := n1_; have HO348 := n2_; have BK332 := n3_; have BK337 := n4_; have BK356 := n5_; have BK357 := n6_; have HB := n7_; clear n0_ n1_ n2_ n3_ n4_ n5_ n6_ n7_; have hnb43 := NB357_332.out; have hnc43 := NB332_357.out; have hnb44 := NB357_337.out; have hnc44 := NB337_357.out; have hcz45_0 : w42.cell? ⟨gb357, 0, none⟩ = some (.bool false) := (blk_cell BK357.out 0).trans rfl; have hcz45_1 : w42.cell? ⟨gb357, 1, none⟩ = some (.bool false) := (blk_cell BK357.out 1).trans rfl; have hcz45_2 : w42.cell? ⟨gb357, 2, none⟩ = some (.int .i64 0) := (blk_cell BK357.out 2).trans rfl; have hcz45_3 : w42.cell? ⟨gb357, 3, none⟩ = some (.int .i64 0) := (blk_cell BK357.out 3).trans rfl; have hcz45_4 : w42.cell? ⟨gb357, 4, none⟩ = some (.int .u32 0) := (blk_cell BK357.out 4).trans rfl; have hcz45_5 : w42.cell? ⟨gb357, 5, none⟩ = some (.int .u32 0) := (blk_cell BK357.out 5).trans rfl; have hfz45_0 := blk_frozen BK357.out 0; have hfz45_1 := blk_frozen BK357.out 1; have hfz45_2 := blk_frozen BK357.out 2; have hfz45_3 := blk_frozen BK357.out 3; have hfz45_4 := blk_frozen BK357.out 4; have hfz45_5 := blk_frozen BK357.out 5) | ((with_reducible refine gate_store (t := 33) (p := 11) rfl ?_); refine store_event (t := 33) (p := 11) (v := ?vo_w46) (w1 := ((((((w42.setCell ⟨gb357, 0, none⟩ (.bool t349)).setCell ⟨gb357, 1, none⟩ (.bool true)).setCell ⟨gb357, 2, none⟩ (.int .i64 t351)).setCell ⟨gb357, 3, none⟩ (.int .i64 t352)).setCell ⟨gb357, 4, none⟩ (.int .u32 t353)).setCell ⟨gb357, 5, none⟩ (.int .u32 t354))) ?hg ?ho ?hn ?hr ?_; (case ho => rfl); (case hg => rfl); (case hn => rfl); (case hr => first | (go_simp; done) | (go_simp; rfl)); intro w46 hw; have n0_ : Aside0 (Kd.S k27 27 w46 w.heap.size (fun k_ => some k_ ≠ (.slice Ao33 x333008_1.length co33 : Value).ownBlock ∧ some k_ ≠ (.slice Ao41 t346.length co41 : Value).ownBlock ∧ k_ ≠ gb332 ∧ k_ ≠ gb356) u7 x7_1) := ⟨(by rw [hw]; exact (by (with_reducible repeat (first | apply Kd.S_alloc | apply Kd.S_drewN | apply Kd.S_drew)); exact Kd.S_mono (Kd.S_far (p := ⟨gb357, 5, none⟩) (Kd.S_far (p := ⟨gb357, 4, none⟩) (Kd.S_far (p := ⟨gb357, 3, none⟩) (Kd.S_far (p := ⟨gb357, 2, none⟩) (Kd.S_far (p := ⟨gb357, 1, none⟩) (Kd.S_far (p := ⟨gb357, 0, none⟩) (Kd.S_types HO_7.out BK357.out (by decide)) (fun _ hk => hk.2) (.bool t349)) (fun _ hk => hk.2) (.bool true)) (fun _ hk => hk.2) (.int .i64 t351)) (fun _ hk => hk.2) (.int .i64 t352)) (fun _ hk => hk.2) (.int .u32 t353)) (fun _ hk => hk.2) (.int .u32 t354)) (fun _ hk => ⟨hk.1.1, ⟨hk.1.2.1, ⟨hk.1.2.2.1, hk.1.2.2.2⟩⟩⟩)))⟩; have n1_ : Aside0 (Kd.R Kd.bool 4 w46 w.heap.size (fun k_ => some k_ ≠ (.slice Ao41 t346.length co41 : Value).ownBlock) (.slice Ao33 x333008_1.length co33) x333008_1) := ⟨(by rw [hw]; exact (by (with_reducible repeat (first | apply Kd.R_alloc | apply Kd.R_drewN | apply Kd.R_drew)); exact Kd.R_mono (Kd.R_far (p := ⟨gb357, 5, none⟩) (Kd.R_far (p := ⟨gb357, 4, none⟩) (Kd.R_far (p := ⟨gb357, 3, none⟩) (Kd.R_far (p := ⟨gb357, 2, none⟩) (Kd.R_far (p := ⟨gb357, 1, none⟩) (Kd.R_far (p := ⟨gb357, 0, none⟩) (Kd.R_types HO_333008.out BK357.out (by decide)) (fun _ hk => hk.2) (.bool t349)) (fun _ hk => hk.2) (.bool true)) (fun _ hk => hk.2) (.int .i64 t351)) (fun _ hk => hk.2) (.int .i64 t352)) (fun _ hk => hk.2) (.int .u32 t353)) (fun _ hk => hk.2) (.int .u32 t354)) (fun _ hk => hk.1)))⟩; have n2_ : Aside0 (Kd.R Kd.bool 4 w46 w.heap.size (fun k_ => some k_ ≠ (.slice Ao33 x333008_1.length co33 : Value).ownBlock) (.slice Ao41 t346.length co41) t346) := ⟨(by rw [hw]; exact (by (with_reducible repeat (first | apply Kd.R_alloc | apply Kd.R_drewN | apply Kd.R_drew)); exact Kd.R_mono (Kd.R_far (p := ⟨gb357, 5, none⟩) (Kd.R_far (p := ⟨gb357, 4, none⟩) (Kd.R_far (p := ⟨gb357, 3, none⟩) (Kd.R_far (p := ⟨gb357, 2, none⟩) (Kd.R_far (p := ⟨gb357, 1, none⟩) (Kd.R_far (p := ⟨gb357, 0, none⟩) (Kd.R_types HO348.out BK357.out (by decide)) (fun _ hk => hk.2) (.bool t349)) (fun _ hk => hk.2) (.bool true)) (fun _ hk => hk.2) (.int .i64 t351)) (fun _ hk => hk.2) (.int .i64 t352)) (fun _ hk => hk.2) (.int .u32 t353)) (fun _ hk => hk.2) (.int .u32 t354)) (fun _ hk => hk.1)))⟩; have n3_ : Aside0 (w46.heap[gb332]? = some (.cells #[.int .i64 x333000_1, .bool x333001_1, .bool x333002_1, .bool x333003_1, .int .i64 x333004_1, .int .i64 x333005_1, .int .u32 x333006_1, .int .u32 x333007_1, .slice Ao33 x333008_1.length co33] 27 (0, 0))) := ⟨(by rw [hw]; exact (by (with_reducible repeat (first | refine blk_drewN ?_ _ | refine blk_drew ?_ | refine blk_alloc ?_ _)); refine blk_far ?_ NB332_357.out _; (with_reducible repeat (first | refine blk_drewN ?_ _ | refine blk_drew ?_ | refine blk_alloc ?_ _)); refine blk_far ?_ NB332_357.out _; (with_reducible repeat (first | refine blk_drewN ?_ _ | refine blk_drew ?_ | refine blk_alloc ?_ _)); refine blk_far ?_ NB332_357.out _; (with_reducible repeat (first | refine blk_drewN ?_ _ | refine blk_drew ?_ | refine blk_alloc ?_ _)); refine blk_far ?_ NB332_357.out _; (with_reducible repeat (first | refine blk_drewN ?_ _ | refine blk_drew ?_ | refine blk_alloc ?_ _)); refine blk_far ?_ NB332_357.out _; (with_reducible repeat (first | refine blk_drewN ?_ _ | refine blk_drew ?_ | refine blk_alloc ?_ _)); refine blk_far ?_ NB332_357.out _; (with_reducible repeat (first | refine blk_drewN ?_ _ | refine blk_drew ?_ | refine blk_alloc ?_ _)); exact BK332.out))⟩; have n4_ : Aside0 (w46.heap[gb337]? = some (.cells #[.int .i64 ((rd_T24 l1 x29_1).f0), .int .i64 ((rd_T24 l1 x29_1).f1), .int .u32 ((rd_T24 l1 x29_1).f2), .int .u32 ((rd_T24 l1 x29_1).f3)] 24 (0, 0))) := ⟨(by rw [hw]; exact (by (with_reducible repeat (first | refine blk_drewN ?_ _ | refine blk_drew ?_ | refine blk_alloc ?_ _)); refine blk_far ?_ NB337_357.out _; (with_reducible repeat (first | refine blk_drewN ?_ _ | refine blk_drew ?_ | refine blk_alloc ?_ _)); refine blk_far ?_ NB337_357.out _; (with_reducible repeat (first | refine blk_drewN ?_ _ | refine blk_drew ?_ | refine blk_alloc ?_ _)); refine blk_far ?_ NB337_357.out _; (with_reducible repeat (first | refine blk_drewN ?_ _ | refine blk_drew ?_ | refine blk_alloc ?_ _)); refine blk_far ?_ NB337_357.out _; (with_reducible repeat (first | refine blk_drewN ?_ _ | refine blk_drew ?_ | refine blk_alloc ?_ _)); refine blk_far ?_ NB337_357.out _; (with_reducible repeat (first | refine blk_drewN ?_ _ | refine blk_drew ?_ | refine blk_alloc ?_ _)); refine blk_far ?_ NB337_357.out _; (with_reducible repeat (first | refine blk_drewN ?_ _ | refine blk_drew ?_ | refine blk_alloc ?_ _)); exact BK337.out))⟩; have n5_ : Aside0 (w46.heap[gb356]? = some (.cells #[.int .i64 t338, .bool t339, .bool t340, .bool t341, .int .i64 t342, .int .i64 t343, .int .u32 t344, .int .u32 t345, .slice Ao41 t346.length co41] 27 (0, 0))) := ⟨(by rw [hw]; exact (by (with_reducible repeat (first | refine blk_drewN ?_ _ | refine blk_drew ?_ | refine blk_alloc ?_ _)); refine blk_far ?_ NB356_357.out _; (with_reducible repeat (first | refine blk_drewN ?_ _ | refine blk_drew ?_ | refine blk_alloc ?_ _)); refine blk_far ?_ NB356_357.out _; (with_reducible repeat (first | refine blk_drewN ?_ _ | refine blk_drew ?_ | refine blk_alloc ?_ _)); refine blk_far ?_ NB356_357.out _; (with_reducible repeat (first | refine blk_drewN ?_ _ | refine blk_drew ?_ | refine blk_alloc ?_ _)); refine blk_far ?_ NB356_357.out _; (with_reducible repeat (first | refine blk_drewN ?_ _ | refine blk_drew ?_ | refine blk_alloc ?_ _)); refine blk_far ?_ NB356_357.out _; (with_reducible repeat (first | refine blk_drewN ?_ _ | refine blk_drew ?_ | refine blk_alloc ?_ _)); refine blk_far ?_ NB356_357.out _; (with_reducible repeat (first | refine blk_drewN ?_ _ | refine blk_drew ?_ | refine blk_alloc ?_ _)); exact BK356.out))⟩; have n6_ : Aside0 (w46.heap[gb357]? = some (.cells #[.bool t349, .bool true, .int .i64 t351, .int .i64 t352, .int .u32 t353, .int .u32 t354] 33 (0, 0))) := ⟨(by rw [hw]; exact (by (with_reducible repeat (first | refine blk_drewN ?_ _ | refine blk_drew ?_ | refine blk_alloc ?_ _)); refine blk_put (cs := #[.bool t349, .bool true, .int .i64 t351, .int .i64 t352, .int .u32 t353, .int .u32 0]) ?_ 5 _ rfl; (with_reducible repeat (first | refine blk_drewN ?_ _ | refine blk_drew ?_ | refine blk_alloc ?_ _)); refine blk_put (cs := #[.bool t349, .bool true, .int .i64 t351, .int .i64 t352, .int .u32 0, .int .u32 0]) ?_ 4 _ rfl; (with_reducible repeat (first | refine blk_drewN ?_ _ | refine blk_drew ?_ | refine blk_alloc ?_ _)); refine blk_put (cs := #[.bool t349, .bool true, .int .i64 t351, .int .i64 0, .int .u32 0, .int .u32 0]) ?_ 3 _ rfl; (with_reducible repeat (first | refine blk_drewN ?_ _ | refine blk_drew ?_ | refine blk_alloc ?_ _)); refine blk_put (cs := #[.bool t349, .bool true, .int .i64 0, .int .i64 0, .int .u32 0, .int .u32 0]) ?_ 2 _ rfl; (with_reducible repeat (first | refine blk_drewN ?_ _ | refine blk_drew ?_ | refine blk_alloc ?_ _)); refine blk_put (cs := #[.bool t349, .bool false, .int .i64 0, .int .i64 0, .int .u32 0, .int .u32 0]) ?_ 1 _ rfl; (with_reducible repeat (first | refine blk_drewN ?_ _ | refine blk_drew ?_ | refine blk_alloc ?_ _)); refine blk_put (cs := #[.bool false, .bool false, .int .i64 0, .int .i64 0, .int .u32 0, .int .u32 0]) ?_ 0 _ rfl; (with_reducible repeat (first | refine blk_drewN ?_ _ | refine blk_drew ?_ | refine blk_alloc ?_ _)); exact BK357.out))⟩; have n7_ : Aside0 (Below w.heap.size w w46) := ⟨(by rw [hw]; exact (by repeat (first | (with_reducible first | exact HB.out | apply below_alloc | apply pw_below_drewN | apply below_drew1 | refine below_set ?_ GE332.out | refine below_set ?_ GE337.out | refine below_set ?_ GE356.out | refine below_set ?_ GE357.out) | exact HB.out)))⟩; clear hw; clear HO_7; clear HO_333008; clear HO348; clear BK332; clear BK337; clear BK356; clear BK357; clear HB; have HO_7 := n0_; have HO_333008 := n1_; have HO348 := n2_; have BK332 := n3_; have BK337 := n4_; have BK356 := n5_; have BK357 := n6_; have HB := n7_; clear n0_ n1_ n2_ n3_ n4_ n5_ n6_ n7_; have hcz47_0 : w46.cell? ⟨gb357, 0, none⟩ = some (.bool t349) := (blk_cell BK357.out 0).trans rfl; have hcz47_1 : w46.cell? ⟨gb357, 1, none⟩ = some (.bool true) := (blk_cell BK357.out 1).trans rfl; have hcz47_2 : w46.cell? ⟨gb357, 2, none⟩ = some (.int .i64 t351) := (blk_cell BK357.out 2).trans rfl; have hcz47_3 : w46.cell? ⟨gb357, 3, none⟩ = some (.int .i64 t352) := (blk_cell BK357.out 3).trans rfl; have hcz47_4 : w46.cell? ⟨gb357, 4, none⟩ = some (.int .u32 t353) := (blk_cell BK357.out 4).trans rfl; have hcz47_5 : w46.cell? ⟨gb357, 5, none⟩ = some (.int .u32 t354) := (blk_cell BK357.out 5).trans rfl; have hfz47_0 := blk_frozen BK357.out 0; have hfz47_1 := blk_frozen BK357.out 1; have hfz47_2 := blk_frozen BK357.out 2; have hfz47_3 := blk_frozen BK357.out 3; have hfz47_4 := blk_frozen BK357.out 4; have hfz47_5 := blk_frozen BK357.out 5; have hcz48_0 : w46.cell? ⟨gb337, 0, none⟩ = some (.int .i64 ((rd_T24 l1 x29_1).f0)) := (blk_cell BK337.out 0).trans rfl; have hcz48_1 : w46.cell? ⟨gb337, 1, none⟩ = some (.int .i64 ((rd_T24 l1 x29_1).f1)) := (blk_cell BK337.out 1).trans rfl; have hcz48_2 : w46.cell? ⟨gb337, 2, none⟩ = some (.int .u32 ((rd_T24 l1 x29_1).f2)) := (blk_cell BK337.out 2).trans rfl; have hcz48_3 : w46.cell? ⟨gb337, 3, none⟩ = some (.int .u32 ((rd_T24 l1 x29_1).f3)) := (blk_cell BK337.out 3).trans rfl; have hfz48_0 := blk_frozen BK337.out 0; have hfz48_1 := blk_frozen BK337.out 1; have hfz48_2 := blk_frozen BK337.out 2; have hfz48_3 := blk_frozen BK337.out 3; have hcz49_0 : w46.cell? ⟨gb332, 0, none⟩ = some (.int .i64 x333000_1) := (blk_cell BK332.out 0).trans rfl; have hcz49_1 : w46.cell? ⟨gb332, 1, none⟩ = some (.bool x333001_1) := (blk_cell BK332.out 1).trans rfl; have hcz49_2 : w46.cell? ⟨gb332, 2, none⟩ = some (.bool x333002_1) := (blk_cell BK332.out 2).trans rfl; have hcz49_3 : w46.cell? ⟨gb332, 3, none⟩ = some (.bool x333003_1) := (blk_cell BK332.out 3).trans rfl; have hcz49_4 : w46.cell? ⟨gb332, 4, none⟩ = some (.int .i64 x333004_1) := (blk_cell BK332.out 4).trans rfl; have hcz49_5 : w46.cell? ⟨gb332, 5, none⟩ = some (.int .i64 x333005_1) := (blk_cell BK332.out 5).trans rfl; have hcz49_6 : w46.cell? ⟨gb332, 6, none⟩ = some (.int .u32 x333006_1) := (blk_cell BK332.out 6).trans rfl; have hcz49_7 : w46.cell? ⟨gb332, 7, none⟩ = some (.int .u32 x333007_1) := (blk_cell BK332.out 7).trans rfl; have hcz49_8 : w46.cell? ⟨gb332, 8, none⟩ = some (.slice Ao33 x333008_1.length co33) := (blk_cell BK332.out 8).trans rfl; have hfz49_0 := blk_frozen BK332.out 0; have hfz49_1 := blk_frozen BK332.out 1; have hfz49_2 := blk_frozen BK332.out 2; have hfz49_3 := blk_frozen BK332.out 3; have hfz49_4 := blk_frozen BK332.out 4; have hfz49_5 := blk_frozen BK332.out 5; have hfz49_6 := blk_frozen BK332.out 6; have hfz49_7 := blk_frozen BK332.out 7; have hfz49_8 := blk_frozen BK332.out 8) | ((with_reducible refine gate_builtin (b := .append) (xs := #[.tmp 64, .tmp 66]) rfl ?_); (try (refine gate_guard (by rfl) ?_; dsimp only)); at_builtin; refine Kd.S_append k27 (w0 := w) w.heap.size rfl (.tmp 64) (.tmp 66) 42 27 (.agg #[(.int .i64 0), (.bool false), (.bool false), (.bool false), (.int .i64 0), (.int .i64 0), (.int .u32 0), (.int .u32 0), (.slice none 0 0)]) 64 rfl Try.underlying42 info27 rfl (by decide) (by omega) u7 x7_1 (⟨x333000_1, x333001_1, x333002_1, x333003_1, (⟨x333004_1, x333005_1, x333006_1, x333007_1⟩ : S24), x333008_1⟩ : S27) [.int .i64 x333000_1, .bool x333001_1, .bool x333002_1, .bool x333003_1, .int .i64 x333004_1, .int .i64 x333005_1, .int .u32 x333006_1, .int .u32 x333007_1, .slice Ao33 x333008_1.length co33] (fun k_ => some k_ ≠ (.slice Ao41 t346.length co41 : Value).ownBlock ∧ k_ ≠ gb332 ∧ k_ ≠ gb356) (fun k_ => some k_ = (.slice Ao33 x333008_1.length co33 : Value).ownBlock) rfl rfl ?aP (fun k_ hk_ => ((Kd.R_mono (ok' := fun k_ => ((fun k_ => some k_ ≠ (.slice Ao41 t346.length co41 : Value).ownBlock ∧ k_ ≠ gb332 ∧ k_ ≠ gb356)) k_ ∧ some k_ ≠ (u7 : Value).ownBlock) (Kd.R_types (Kd.R_types (Kd.R_apart' (HO_333008.out) (Kd.S_typed HO_7.out) (by decide)) BK332.out (by decide)) BK356.out (by decide)) (fun k_ hk => ⟨⟨hk.1.1.1, ⟨hk.1.2, hk.2⟩⟩, hk.1.1.2⟩))).1 k_ hk_.symm) ?aF ?aO ?aB ?aS ?aL ?_; (case aP => exact k27_mkM _ _ _ (⟨x333000_1, x333001_1, x333002_1, x333003_1, (⟨x333004_1, x333005_1, x333006_1, x333007_1⟩ : S24), x333008_1⟩ : S27) (Kd.R_mono (Kd.R_tight rfl (Kd.R_mono (ok' := fun k_ => ((fun k_ => some k_ ≠ (.slice Ao41 t346.length co41 : Value).ownBlock ∧ k_ ≠ gb332 ∧ k_ ≠ gb356)) k_ ∧ some k_ ≠ (u7 : Value).ownBlock) (Kd.R_types (Kd.R_types (Kd.R_apart' (HO_333008.out) (Kd.S_typed HO_7.out) (by decide)) BK332.out (by decide)) BK356.out (by decide)) (fun k_ hk => ⟨⟨hk.1.1.1, ⟨hk.1.2, hk.2⟩⟩, hk.1.1.2⟩))) (fun _ h_ => h_))); (case aB => exact (by repeat (first | (with_reducible first | exact HB.out | apply below_alloc | apply pw_below_drewN | apply below_drew1 | refine below_set ?_ GE332.out | refine below_set ?_ GE337.out | refine below_set ?_ GE356.out | refine below_set ?_ GE357.out) | exact HB.out))); (case aF => exact (fun k_ hk => ⟨Kd.fresh' (Kd.R_lt (by (with_reducible repeat (first | apply Kd.R_alloc | apply Kd.R_drewN | apply Kd.R_drew)); exact HO348.out)) k_ hk, Kd.freshB (g := gb332) (o := .cells #[.int .i64 x333000_1, .bool x333001_1, .bool x333002_1, .bool x333003_1, .int .i64 x333004_1, .int .i64 x333005_1, .int .u32 x333006_1, .int .u32 x333007_1, .slice Ao33 x333008_1.length co33] 27 (0, 0)) (by (with_reducible repeat (first | refine blk_drewN ?_ _ | refine blk_drew ?_ | refine blk_alloc ?_ _)); exact BK332.out) k_ hk, Kd.freshB (g := gb356) (o := .cells #[.int .i64 t338, .bool t339, .bool t340, .bool t341, .int .i64 t342, .int .i64 t343, .int .u32 t344, .int .u32 t345, .slice Ao41 t346.length co41] 27 (0, 0)) (by (with_reducible repeat (first | refine blk_drewN ?_ _ | refine blk_drew ?_ | refine blk_alloc ?_ _)); exact BK356.out) k_ hk⟩)); (case aO => exact (by (with_reducible repeat (first | apply Kd.S_alloc | apply Kd.S_drewN | apply Kd.S_drew)); exact Kd.S_mono HO_7.out (fun k_ hk => ⟨⟨hk.2.1, ⟨hk.2.2.1, hk.2.2.2⟩⟩, fun e_ => hk.1 e_⟩))); (case aS => exact (below_size (by repeat (first | (with_reducible first | exact HB.out | apply below_alloc | apply pw_below_drewN | apply below_drew1 | refine below_set ?_ GE332.out | refine below_set ?_ GE337.out | refine below_set ?_ GE356.out | refine below_set ?_ GE357.out) | exact HB.out)))); (case aL => have := LMc29.out; omega); intro v359 w50 ho hb hg hat; rw [← Ny358.out] at ho; have n0_ := Aside0.mk (blk_grown (g := gb332) (o := .cells #[.int .i64 x333000_1, .bool x333001_1, .bool x333002_1, .bool x333003_1, .int .i64 x333004_1, .int .i64 x333005_1, .int .u32 x333006_1, .int .u32 x333007_1, .slice Ao33 x333008_1.length co33] 27 (0, 0)) (by (with_reducible repeat (first | refine blk_drewN ?_ _ | refine blk_drew ?_ | refine blk_alloc ?_ _)); exact BK332.out) hg (Kd.S_away HO_7.out (fun _ hk => hk.2.2.1))); have n1_ := Aside0.mk (blk_grown (g := gb337) (o := .cells #[.int .i64 ((rd_T24 l1 x29_1).f0), .int .i64 ((rd_T24 l1 x29_1).f1), .int .u32 ((rd_T24 l1 x29_1).f2), .int .u32 ((rd_T24 l1 x29_1).f3)] 24 (0, 0)) (by (with_reducible repeat (first | refine blk_drewN ?_ _ | refine blk_drew ?_ | refine blk_alloc ?_ _)); exact BK337.out) hg (Kd.S_ne HO_7.out BK337.out (by decide))); have n2_ := Aside0.mk (Kd.R_over' (by (with_reducible repeat (first | apply Kd.R_alloc | apply Kd.R_drewN | apply Kd.R_drew)); exact HO348.out) (Kd.S_typed (by (with_reducible repeat (first | apply Kd.S_alloc | apply Kd.S_drewN | apply Kd.S_drew)); exact HO_7.out)) (by decide) hg); have n3_ := Aside0.mk (blk_grown (g := gb356) (o := .cells #[.int .i64 t338, .bool t339, .bool t340, .bool t341, .int .i64 t342, .int .i64 t343, .int .u32 t344, .int .u32 t345, .slice Ao41 t346.length co41] 27 (0, 0)) (by (with_reducible repeat (first | refine blk_drewN ?_ _ | refine blk_drew ?_ | refine blk_alloc ?_ _)); exact BK356.out) hg (Kd.S_away HO_7.out (fun _ hk => hk.2.2.2))); have n4_ := Aside0.mk (blk_grown (g := gb357) (o := .cells #[.bool t349, .bool true, .int .i64 t351, .int .i64 t352, .int .u32 t353, .int .u32 t354] 33 (0, 0)) (by (with_reducible repeat (first | refine blk_drewN ?_ _ | refine blk_drew ?_ | refine blk_alloc ?_ _)); exact BK357.out) hg (Kd.S_ne HO_7.out BK357.out (by decide))); have n5_ := Aside0.mk (hb); have n6_ := Aside0.mk (ho); clear BK332; clear BK337; clear HO348; clear BK356; clear BK357; clear HB; clear HO_7; clear HO_333008; have BK332 := n0_; have BK337 := n1_; have HO348 := n2_; have BK356 := n3_; have BK357 := n4_; have HB := n5_; have HO360 := n6_; clear n0_ n1_ n2_ n3_ n4_ n5_ n6_; clear ho hb hg hat; have hcz51_0 : w50.cell? ⟨gb356, 0, none⟩ = some (.int .i64 t338) := (blk_cell BK356.out 0).trans rfl; have hcz51_1 : w50.cell? ⟨gb356, 1, none⟩ = some (.bool t339) := (blk_cell BK356.out 1).trans rfl; have hcz51_2 : w50.cell? ⟨gb356, 2, none⟩ = some (.bool t340) := (blk_cell BK356.out 2).trans rfl; have hcz51_3 : w50.cell? ⟨gb356, 3, none⟩ = some (.bool t341) := (blk_cell BK356.out 3).trans rfl; have hcz51_4 : w50.cell? ⟨gb356, 4, none⟩ = some (.int .i64 t342) := (blk_cell BK356.out 4).trans rfl; have hcz51_5 : w50.cell? ⟨gb356, 5, none⟩ = some (.int .i64 t343) := (blk_cell BK356.out 5).trans rfl; have hcz51_6 : w50.cell? ⟨gb356, 6, none⟩ = some (.int .u32 t344) := (blk_cell BK356.out 6).trans rfl; have hcz51_7 : w50.cell? ⟨gb356, 7, none⟩ = some (.int .u32 t345) := (blk_cell BK356.out 7).trans rfl; have hcz51_8 : w50.cell? ⟨gb356, 8, none⟩ = some (.slice Ao41 t346.length co41) := (blk_cell BK356.out 8).trans rfl; have hfz51_0 := blk_frozen BK356.out 0; have hfz51_1 := blk_frozen BK356.out 1; have hfz51_2 := blk_frozen BK356.out 2; have hfz51_3 := blk_frozen BK356.out 3; have hfz51_4 := blk_frozen BK356.out 4; have hfz51_5 := blk_frozen BK356.out 5; have hfz51_6 := blk_frozen BK356.out 6; have hfz51_7 := blk_frozen BK356.out 7; have hfz51_8 := blk_frozen BK356.out 8; have hcz52_0 : w50.cell? ⟨gb332, 0, none⟩ = some (.int .i64 x333000_1) := (blk_cell BK332.out 0).trans rfl; have hcz52_1 : w50.cell? ⟨gb332, 1, none⟩ = some (.bool x333001_1) := (blk_cell BK332.out 1).trans rfl; have hcz52_2 : w50.cell? ⟨gb332, 2, none⟩ = some (.bool x333002_1) := (blk_cell BK332.out 2).trans rfl; have hcz52_3 : w50.cell? ⟨gb332, 3, none⟩ = some (.bool x333003_1) := (blk_cell BK332.out 3).trans rfl; have hcz52_4 : w50.cell? ⟨gb332, 4, none⟩ = some (.int .i64 x333004_1) := (blk_cell BK332.out 4).trans rfl; have hcz52_5 : w50.cell? ⟨gb332, 5, none⟩ = some (.int .i64 x333005_1) := (blk_cell BK332.out 5).trans rfl; have hcz52_6 : w50.cell? ⟨gb332, 6, none⟩ = some (.int .u32 x333006_1) := (blk_cell BK332.out 6).trans rfl; have hcz52_7 : w50.cell? ⟨gb332, 7, none⟩ = some (.int .u32 x333007_1) := (blk_cell BK332.out 7).trans rfl; have hcz52_8 : w50.cell? ⟨gb332, 8, none⟩ = some (.slice Ao33 x333008_1.length co33) := (blk_cell BK332.out 8).trans rfl; have hfz52_0 := blk_frozen BK332.out 0; have hfz52_1 := blk_frozen BK332.out 1; have hfz52_2 := blk_frozen BK332.out 2; have hfz52_3 := blk_frozen BK332.out 3; have hfz52_4 := blk_frozen BK332.out 4; have hfz52_5 := blk_frozen BK332.out 5; have hfz52_6 := blk_frozen BK332.out 6; have hfz52_7 := blk_frozen BK332.out 7; have hfz52_8 := blk_frozen BK332.out 8))
                go_roundg kj17
                case measure => have := HK1.out; have := HJ17.out; omega
                case rel => exact ⟨(y358), (wrap64 (x29_1 + 1)), (t338), (t339), (t340), (t341), (t342), (t343), (t344), (t345), (t346), (.slice Ao41 t346.length co41), (by first | rfl | (simp; done) | (simp [*]; done)), H', ⟨by have := HK1.out; have := HJ17.out; omega⟩, ⟨by (with_reducible repeat (first | apply Kd.S_alloc | apply Kd.S_drewN | apply Kd.S_drew)); exact Kd.S_mono (Kd.S_far (p := ⟨gb332, 8, none⟩) (Kd.S_far (p := ⟨gb332, 7, none⟩) (Kd.S_far (p := ⟨gb332, 6, none⟩) (Kd.S_far (p := ⟨gb332, 5, none⟩) (Kd.S_far (p := ⟨gb332, 4, none⟩) (Kd.S_far (p := ⟨gb332, 3, none⟩) (Kd.S_far (p := ⟨gb332, 2, none⟩) (Kd.S_far (p := ⟨gb332, 1, none⟩) (Kd.S_far (p := ⟨gb332, 0, none⟩) (Kd.S_mono HO360.out (fun k_ hk => (⟨hk, hk.2.1⟩ : _ ∧ k_ ≠ gb332))) (fun _ hk => hk.2) (.int .i64 t338)) (fun _ hk => hk.2) (.bool t339)) (fun _ hk => hk.2) (.bool t340)) (fun _ hk => hk.2) (.bool t341)) (fun _ hk => hk.2) (.int .i64 t342)) (fun _ hk => hk.2) (.int .i64 t343)) (fun _ hk => hk.2) (.int .u32 t344)) (fun _ hk => hk.2) (.int .u32 t345)) (fun _ hk => hk.2) (.slice Ao41 t346.length co41)) (fun _ hk => ⟨hk.1.1, hk.1.2.1⟩)⟩, ⟨by (with_reducible repeat (first | apply Kd.R_alloc | apply Kd.R_drewN | apply Kd.R_drew)); exact Kd.R_mono (Kd.R_far (p := ⟨gb332, 8, none⟩) (Kd.R_far (p := ⟨gb332, 7, none⟩) (Kd.R_far (p := ⟨gb332, 6, none⟩) (Kd.R_far (p := ⟨gb332, 5, none⟩) (Kd.R_far (p := ⟨gb332, 4, none⟩) (Kd.R_far (p := ⟨gb332, 3, none⟩) (Kd.R_far (p := ⟨gb332, 2, none⟩) (Kd.R_far (p := ⟨gb332, 1, none⟩) (Kd.R_far (p := ⟨gb332, 0, none⟩) (Kd.R_types HO348.out BK332.out (by decide)) (fun _ hk => hk.2) (.int .i64 t338)) (fun _ hk => hk.2) (.bool t339)) (fun _ hk => hk.2) (.bool t340)) (fun _ hk => hk.2) (.bool t341)) (fun _ hk => hk.2) (.int .i64 t342)) (fun _ hk => hk.2) (.int .i64 t343)) (fun _ hk => hk.2) (.int .u32 t344)) (fun _ hk => hk.2) (.int .u32 t345)) (fun _ hk => hk.2) (.slice Ao41 t346.length co41)) (fun _ hk => trivial)⟩, ⟨by (with_reducible repeat (first | refine blk_drewN ?_ _ | refine blk_drew ?_ | refine blk_alloc ?_ _)); refine blk_put (cs := #[.int .i64 t338, .bool t339, .bool t340, .bool t341, .int .i64 t342, .int .i64 t343, .int .u32 t344, .int .u32 t345, .slice Ao33 x333008_1.length co33]) ?_ 8 _ rfl; (with_reducible repeat (first | refine blk_drewN ?_ _ | refine blk_drew ?_ | refine blk_alloc ?_ _)); refine blk_put (cs := #[.int .i64 t338, .bool t339, .bool t340, .bool t341, .int .i64 t342, .int .i64 t343, .int .u32 t344, .int .u32 x333007_1, .slice Ao33 x333008_1.length co33]) ?_ 7 _ rfl; (with_reducible repeat (first | refine blk_drewN ?_ _ | refine blk_drew ?_ | refine blk_alloc ?_ _)); refine blk_put (cs := #[.int .i64 t338, .bool t339, .bool t340, .bool t341, .int .i64 t342, .int .i64 t343, .int .u32 x333006_1, .int .u32 x333007_1, .slice Ao33 x333008_1.length co33]) ?_ 6 _ rfl; (with_reducible repeat (first | refine blk_drewN ?_ _ | refine blk_drew ?_ | refine blk_alloc ?_ _)); refine blk_put (cs := #[.int .i64 t338, .bool t339, .bool t340, .bool t341, .int .i64 t342, .int .i64 x333005_1, .int .u32 x333006_1, .int .u32 x333007_1, .slice Ao33 x333008_1.length co33]) ?_ 5 _ rfl; (with_reducible repeat (first | refine blk_drewN ?_ _ | refine blk_drew ?_ | refine blk_alloc ?_ _)); refine blk_put (cs := #[.int .i64 t338, .bool t339, .bool t340, .bool t341, .int .i64 x333004_1, .int .i64 x333005_1, .int .u32 x333006_1, .int .u32 x333007_1, .slice Ao33 x333008_1.length co33]) ?_ 4 _ rfl; (with_reducible repeat (first | refine blk_drewN ?_ _ | refine blk_drew ?_ | refine blk_alloc ?_ _)); refine blk_put (cs := #[.int .i64 t338, .bool t339, .bool t340, .bool x333003_1, .int .i64 x333004_1, .int .i64 x333005_1, .int .u32 x333006_1, .int .u32 x333007_1, .slice Ao33 x333008_1.length co33]) ?_ 3 _ rfl; (with_reducible repeat (first | refine blk_drewN ?_ _ | refine blk_drew ?_ | refine blk_alloc ?_ _)); refine blk_put (cs := #[.int .i64 t338, .bool t339, .bool x333002_1, .bool x333003_1, .int .i64 x333004_1, .int .i64 x333005_1, .int .u32 x333006_1, .int .u32 x333007_1, .slice Ao33 x333008_1.length co33]) ?_ 2 _ rfl; (with_reducible repeat (first | refine blk_drewN ?_ _ | refine blk_drew ?_ | refine blk_alloc ?_ _)); refine blk_put (cs := #[.int .i64 t338, .bool x333001_1, .bool x333002_1, .bool x333003_1, .int .i64 x333004_1, .int .i64 x333005_1, .int .u32 x333006_1, .int .u32 x333007_1, .slice Ao33 x333008_1.length co33]) ?_ 1 _ rfl; (with_reducible repeat (first | refine blk_drewN ?_ _ | refine blk_drew ?_ | refine blk_alloc ?_ _)); refine blk_put (cs := #[.int .i64 x333000_1, .bool x333001_1, .bool x333002_1, .bool x333003_1, .int .i64 x333004_1, .int .i64 x333005_1, .int .u32 x333006_1, .int .u32 x333007_1, .slice Ao33 x333008_1.length co33]) ?_ 0 _ rfl; (with_reducible repeat (first | refine blk_drewN ?_ _ | refine blk_drew ?_ | refine blk_alloc ?_ _)); exact BK332.out⟩, ⟨by repeat (first | (with_reducible first | exact HB.out | apply below_alloc | apply pw_below_drewN | apply below_drew1 | refine below_set ?_ GE332.out | refine below_set ?_ GE337.out | refine below_set ?_ GE356.out | refine below_set ?_ GE357.out) | exact HB.out)⟩⟩
               ·rw [if_neg c29] at H
                exact absurd H (by simp)
             ·replace c27 := Bool.eq_false_iff.mpr c27
              subst c27
              have H1 : (some false) = some r := by rw [if_neg (show ¬ (false = true) by decide)] at H; exact H
              clear H
              have H := H1
              clear H1
              exact absurd ((Option.some.inj H).trans HRr.out) (by simp)
            ·rw [if_neg c26] at H
             have c26b0 : (t355 == 0) = false := beq_eq_false_iff_ne.mpr c26
             have c26b1 : (t355 != 0) = true := bne_iff_ne.mpr c26
             exact absurd ((Option.some.inj H).trans HRr.out) (by simp)
        ·rw [if_neg c17] at H
         exact absurd H (by simp)
       ·rw [if_neg c16] at H
        exact absurd H (by simp)
      ·rw [if_neg c15] at H
       have c15b0 : decide (x29_1 < (l1.length : Int)) = false := decide_eq_false c15
       clear c15
       (first | rw [c15b0] | (simp only [i64_w, i32_w]; rw [c15b0]) | skip)
       have H' := Aside0.mk H
       clear H
       go_wp2
       go_meet
       case rel => exact ⟨_, (x7_1), (x333000_1), (x333001_1), (x333002_1), (x333003_1), (x333004_1), (x333005_1), (x333006_1), (x333007_1), (x333008_1), (u333008), H', ⟨by have := HK1.out; first | omega | exact Nat.le_refl _⟩, ⟨by (with_reducible repeat (first | apply Kd.S_alloc | apply Kd.S_drewN | apply Kd.S_drew)); exact HO_7.out⟩, ⟨by (with_reducible repeat (first | apply Kd.R_alloc | apply Kd.R_drewN | apply Kd.R_drew)); exact HO_333008.out⟩, ⟨by (with_reducible repeat (first | refine blk_drewN ?_ _ | refine blk_drew ?_ | refine blk_alloc ?_ _)); exact BK332.out⟩, ⟨by repeat (first | (with_reducible first | exact HB.out | apply below_alloc | apply pw_below_drewN | apply below_drew1 | refine below_set ?_ GE332.out) | exact HB.out)⟩⟩
   case rest =>
    clear HC7
    try clear c1
    try clear c2
    try clear p2
    try clear c3
    try clear p3
    try clear q3
    try clear hx3
    try clear c4
    try clear c6
    try clear c6b0
    try clear c6b1
    try clear p6
    try clear c12
    try clear c13
    try clear c15
    try clear c15b0
    try clear c16
    try clear c16b0
    try clear c17
    try clear c17b0
    try clear c20
    try clear c22
    try clear c22b0
    try clear c22b1
    try clear c23
    try clear c23b0
    try clear c23b1
    try clear c24
    try clear c26
    try clear c26b0
    try clear c26b1
    try clear c27
    try clear c28
    try clear c28b0
    try clear c29
    try clear c30
    try clear p33
    try clear q33
    try clear hx33
    try clear c37
    try clear c38
    try clear c39
    try clear c43
    try clear c44
    try clear hcz11_0
    try clear hcz11_1
    try clear hcz11_2
    try clear hcz11_3
    try clear hcz11_4
    try clear hcz11_5
    try clear hcz11_6
    try clear hcz11_7
    try clear hcz11_8
    try clear hcz21_0
    try clear hcz21_1
    try clear hcz21_2
    try clear hcz21_3
    try clear hcz31_0
    try clear hcz31_1
    try clear hcz31_2
    try clear hcz31_3
    try clear hcz31_4
    try clear hcz31_5
    try clear hcz31_6
    try clear hcz31_7
    try clear hcz31_8
    try clear hcz32_0
    try clear hcz32_1
    try clear hcz32_2
    try clear hcz32_3
    try clear hcz40_0
    try clear hcz40_1
    try clear hcz40_2
    try clear hcz40_3
    try clear hcz40_4
    try clear hcz40_5
    try clear hcz40_6
    try clear hcz40_7
    try clear hcz40_8
    try clear hcz45_0
    try clear hcz45_1
    try clear hcz45_2
    try clear hcz45_3
    try clear hcz45_4
    try clear hcz45_5
    try clear hcz47_0
    try clear hcz47_1
    try clear hcz47_2
    try clear hcz47_3
    try clear hcz47_4
    try clear hcz47_5
    try clear hcz48_0
    try clear hcz48_1
    try clear hcz48_2
    try clear hcz48_3
    try clear hcz49_0
    try clear hcz49_1
    try clear hcz49_2
    try clear hcz49_3
    try clear hcz49_4
    try clear hcz49_5
    try clear hcz49_6
    try clear hcz49_7
    try clear hcz49_8
    try clear hcz51_0
    try clear hcz51_1
    try clear hcz51_2
    try clear hcz51_3
    try clear hcz51_4
    try clear hcz51_5
    try clear hcz51_6
    try clear hcz51_7
    try clear hcz51_8
    try clear hcz52_0
    try clear hcz52_1
    try clear hcz52_2
    try clear hcz52_3
    try clear hcz52_4
    try clear hcz52_5
    try clear hcz52_6
    try clear hcz52_7
    try clear hcz52_8
    try clear hfz11_0
    try clear hfz11_1
    try clear hfz11_2
    try clear hfz11_3
    try clear hfz11_4
    try clear hfz11_5
    try clear hfz11_6
    try clear hfz11_7
    try clear hfz11_8
    try clear hfz21_0
    try clear hfz21_1
    try clear hfz21_2
    try clear hfz21_3
    try clear hfz31_0
    try clear hfz31_1
    try clear hfz31_2
    try clear hfz31_3
    try clear hfz31_4
    try clear hfz31_5
    try clear hfz31_6
    try clear hfz31_7
    try clear hfz31_8
    try clear hfz32_0
    try clear hfz32_1
    try clear hfz32_2
    try clear hfz32_3
    try clear hfz40_0
    try clear hfz40_1
    try clear hfz40_2
    try clear hfz40_3
    try clear hfz40_4
    try clear hfz40_5
    try clear hfz40_6
    try clear hfz40_7
    try clear hfz40_8
    try clear hfz45_0
    try clear hfz45_1
    try clear hfz45_2
    try clear hfz45_3
    try clear hfz45_4
    try clear hfz45_5
    try clear hfz47_0
    try clear hfz47_1
    try clear hfz47_2
    try clear hfz47_3
    try clear hfz47_4
    try clear hfz47_5
    try clear hfz48_0
    try clear hfz48_1
    try clear hfz48_2
    try clear hfz48_3
    try clear hfz49_0
    try clear hfz49_1
    try clear hfz49_2
    try clear hfz49_3
    try clear hfz49_4
    try clear hfz49_5
    try clear hfz49_6
    try clear hfz49_7
    try clear hfz49_8
    try clear hfz51_0
    try clear hfz51_1
    try clear hfz51_2
    try clear hfz51_3
    try clear hfz51_4
    try clear hfz51_5
    try clear hfz51_6
    try clear hfz51_7
    try clear hfz51_8
    try clear hfz52_0
    try clear hfz52_1
    try clear hfz52_2
    try clear hfz52_3
    try clear hfz52_4
    try clear hfz52_5
    try clear hfz52_6
    try clear hfz52_7
    try clear hfz52_8
    try clear hx336_0
    try clear hx336_1
    try clear hx336_2
    try clear hx336_3
    try clear p2
    try clear p3
    try clear p336
    try clear q3
    try clear q336
    obtain ⟨kq, x7_6, x333000_6, x333001_6, x333002_6, x333003_6, x333004_6, x333005_6, x333006_6, x333007_6, x333008_6, u333008, HA, HJ6, HO_7, HO_333008, BK332, HB⟩ := hcut
    cases kq with
    | zero => exact absurd HA.out (by simp [wicketgatelaw26_SignalNests.j2])
    | succ kj6 =>
     have H := HA.out
     clear HA
     simp only [wicketgatelaw26_SignalNests.j2] at H
     have H' := Aside0.mk H
     clear H
     go_wp2
     go_loopg [7] kj6 (fun kq v7 w' => ∃ (x7_2 : List (S27)) (x333000_2 : Int) (x333001_2 : Bool) (x333002_2 : Bool) (x333003_2 : Bool) (x333004_2 : Int) (x333005_2 : Int) (x333006_2 : Int) (x333007_2 : Int) (x333008_2 : List Bool) (u333008 : Value), Aside0 (wicketgatelaw26_SignalNests.l1 kq x7_2 x333000_2 x333001_2 x333002_2 x333003_2 x333004_2 x333005_2 x333006_2 x333007_2 x333008_2 = some r) ∧ Aside0 (kq ≤ kj6) ∧ Aside0 (Kd.S k27 27 w' w.heap.size (fun k_ => some k_ ≠ (u333008 : Value).ownBlock ∧ k_ ≠ gb332) v7 x7_2) ∧ Aside0 (Kd.R Kd.bool 4 w' w.heap.size (fun _ => True) u333008 x333008_2) ∧ Aside0 (w'.heap[gb332]? = some (.cells #[.int .i64 x333000_2, .bool x333001_2, .bool x333002_2, .bool x333003_2, .int .i64 x333004_2, .int .i64 x333005_2, .int .u32 x333006_2, .int .u32 x333007_2, u333008] 27 (0, 0))) ∧ Aside0 (Below w.heap.size w w'))
     case atStart => exact ⟨(x7_6), (x333000_6), (x333001_6), (x333002_6), (x333003_6), (x333004_6), (x333005_6), (x333006_6), (x333007_6), (x333008_6), (u333008), H', ⟨Nat.le_refl _⟩, ⟨by (with_reducible repeat (first | apply Kd.S_alloc | apply Kd.S_drewN | apply Kd.S_drew)); exact HO_7.out⟩, ⟨by (with_reducible repeat (first | apply Kd.R_alloc | apply Kd.R_drewN | apply Kd.R_drew)); exact HO_333008.out⟩, ⟨by (with_reducible repeat (first | refine blk_drewN ?_ _ | refine blk_drew ?_ | refine blk_alloc ?_ _)); exact BK332.out⟩, ⟨by repeat (first | (with_reducible first | exact HB.out | apply below_alloc | apply pw_below_drewN | apply below_drew1 | refine below_set ?_ GE332.out) | exact HB.out)⟩⟩
     case round =>
      clear H'
      try clear c1
      try clear c2
      try clear p2
      try clear c3
      try clear p3
      try clear q3
      try clear hx3
      try clear c4
      try clear c6
      try clear c6b0
      try clear c6b1
      try clear p6
      try clear c12
      try clear c13
      try clear c15
      try clear c15b0
      try clear c16
      try clear c16b0
      try clear c17
      try clear c17b0
      try clear c20
      try clear c22
      try clear c22b0
      try clear c22b1
      try clear c23
      try clear c23b0
      try clear c23b1
      try clear c24
      try clear c26
      try clear c26b0
      try clear c26b1
      try clear c27
      try clear c28
      try clear c28b0
      try clear c29
      try clear c30
      try clear p33
      try clear q33
      try clear hx33
      try clear c37
      try clear c38
      try clear c39
      try clear c43
      try clear c44
      try clear hcz11_0
      try clear hcz11_1
      try clear hcz11_2
      try clear hcz11_3
      try clear hcz11_4
      try clear hcz11_5
      try clear hcz11_6
      try clear hcz11_7
      try clear hcz11_8
      try clear hcz21_0
      try clear hcz21_1
      try clear hcz21_2
      try clear hcz21_3
      try clear hcz31_0
      try clear hcz31_1
      try clear hcz31_2
      try clear hcz31_3
      try clear hcz31_4
      try clear hcz31_5
      try clear hcz31_6
      try clear hcz31_7
      try clear hcz31_8
      try clear hcz32_0
      try clear hcz32_1
      try clear hcz32_2
      try clear hcz32_3
      try clear hcz40_0
      try clear hcz40_1
      try clear hcz40_2
      try clear hcz40_3
      try clear hcz40_4
      try clear hcz40_5
      try clear hcz40_6
      try clear hcz40_7
      try clear hcz40_8
      try clear hcz45_0
      try clear hcz45_1
      try clear hcz45_2
      try clear hcz45_3
      try clear hcz45_4
      try clear hcz45_5
      try clear hcz47_0
      try clear hcz47_1
      try clear hcz47_2
      try clear hcz47_3
      try clear hcz47_4
      try clear hcz47_5
      try clear hcz48_0
      try clear hcz48_1
      try clear hcz48_2
      try clear hcz48_3
      try clear hcz49_0
      try clear hcz49_1
      try clear hcz49_2
      try clear hcz49_3
      try clear hcz49_4
      try clear hcz49_5
      try clear hcz49_6
      try clear hcz49_7
      try clear hcz49_8
      try clear hcz51_0
      try clear hcz51_1
      try clear hcz51_2
      try clear hcz51_3
      try clear hcz51_4
      try clear hcz51_5
      try clear hcz51_6
      try clear hcz51_7
      try clear hcz51_8
      try clear hcz52_0
      try clear hcz52_1
      try clear hcz52_2
      try clear hcz52_3
      try clear hcz52_4
      try clear hcz52_5
      try clear hcz52_6
      try clear hcz52_7
      try clear hcz52_8
      try clear hfz11_0
      try clear hfz11_1
      try clear hfz11_2
      try clear hfz11_3
      try clear hfz11_4
      try clear hfz11_5
      try clear hfz11_6
      try clear hfz11_7
      try clear hfz11_8
      try clear hfz21_0
      try clear hfz21_1
      try clear hfz21_2
      try clear hfz21_3
      try clear hfz31_0
      try clear hfz31_1
      try clear hfz31_2
      try clear hfz31_3
      try clear hfz31_4
      try clear hfz31_5
      try clear hfz31_6
      try clear hfz31_7
      try clear hfz31_8
      try clear hfz32_0
      try clear hfz32_1
      try clear hfz32_2
      try clear hfz32_3
      try clear hfz40_0
      try clear hfz40_1
      try clear hfz40_2
      try clear hfz40_3
      try clear hfz40_4
      try clear hfz40_5
      try clear hfz40_6
      try clear hfz40_7
      try clear hfz40_8
      try clear hfz45_0
      try clear hfz45_1
      try clear hfz45_2
      try clear hfz45_3
      try clear hfz45_4
      try clear hfz45_5
      try clear hfz47_0
      try clear hfz47_1
      try clear hfz47_2
      try clear hfz47_3
      try clear hfz47_4
      try clear hfz47_5
      try clear hfz48_0
      try clear hfz48_1
      try clear hfz48_2
      try clear hfz48_3
      try clear hfz49_0
      try clear hfz49_1
      try clear hfz49_2
      try clear hfz49_3
      try clear hfz49_4
      try clear hfz49_5
      try clear hfz49_6
      try clear hfz49_7
      try clear hfz49_8
      try clear hfz51_0
      try clear hfz51_1
      try clear hfz51_2
      try clear hfz51_3
      try clear hfz51_4
      try clear hfz51_5
      try clear hfz51_6
      try clear hfz51_7
      try clear hfz51_8
      try clear hfz52_0
      try clear hfz52_1
      try clear hfz52_2
      try clear hfz52_3
      try clear hfz52_4
      try clear hfz52_5
      try clear hfz52_6
      try clear hfz52_7
      try clear hfz52_8
      try clear hx336_0
      try clear hx336_1
      try clear hx336_2
      try clear hx336_3
      try clear p2
      try clear p3
      try clear p33
      try clear p336
      try clear p6
      try clear q3
      try clear q33
      try clear q336
      obtain ⟨x7_2, x333000_2, x333001_2, x333002_2, x333003_2, x333004_2, x333005_2, x333006_2, x333007_2, x333008_2, u333008, HA, HK2, HO_7, HO_333008, BK332, HB⟩ := hrel
      cases gk with
      | zero => exact absurd HA.out (by simp [wicketgatelaw26_SignalNests.l1])
      | succ k2 =>
       have H := HA.out
       clear HA
       simp only [wicketgatelaw26_SignalNests.l1] at H
       by_cases c53 : (x7_2.length : Int) > 0
       ·rw [if_pos c53] at H
        have c53b0 : decide (0 < (x7_2.length : Int)) = true := decide_eq_true c53
        have c53b1 : decide (0 < x7_2.length) = true := decide_eq_true (by omega)
        clear c53
        replace H := Option.bind_eq_some_iff.mp H
        obtain ⟨⟨t379, t380, t381, t382, t383, t384, t385, t386, t387, t390, t391, t392, t393, t394, t395, t396⟩, A540, H⟩ := H
        replace H : (if t396 = 0 then (if (t390 || (t391 || ((!(t392 == 0) || (!(t393 == 0) || (!(t394 == 0) || (!(t395 == 0)))))))) = true then (some false) else (if 0 ≤ (wrap64 ((x7_2.length : Int) - 1)) then (if (wrap64 ((x7_2.length : Int) - 1)) < (x7_2.length : Int) then ((signal_Same.f k2 t379 t380 t381 t382 t383 t384 t385 t386 t387 ((rd_T27 x7_2 (wrap64 ((x7_2.length : Int) - 1))).f0) ((rd_T27 x7_2 (wrap64 ((x7_2.length : Int) - 1))).f1) ((rd_T27 x7_2 (wrap64 ((x7_2.length : Int) - 1))).f2) ((rd_T27 x7_2 (wrap64 ((x7_2.length : Int) - 1))).f3) ((rd_T27 x7_2 (wrap64 ((x7_2.length : Int) - 1))).f4.f0) ((rd_T27 x7_2 (wrap64 ((x7_2.length : Int) - 1))).f4.f1) ((rd_T27 x7_2 (wrap64 ((x7_2.length : Int) - 1))).f4.f2) ((rd_T27 x7_2 (wrap64 ((x7_2.length : Int) - 1))).f4.f3) ((rd_T27 x7_2 (wrap64 ((x7_2.length : Int) - 1))).f5)).bind fun t400 => (if t400 = true then (if (wrap64 ((x7_2.length : Int) - 1)) ≤ (x7_2.length : Int) then (wicketgatelaw26_SignalNests.l1 k2 (x7_2.take ((wrap64 ((x7_2.length : Int) - 1)) : Int).toNat) t379 t380 t381 t382 t383 t384 t385 t386 t387) else (none)) else (some false))) else (none)) else (none))) else (some false)) = some r := H
        have A54 := Aside0.mk A540
        clear A540
        by_cases c55 : t396 = 0
        ·rw [if_pos c55] at H
         have c55b0 : (t396 == 0) = true := beq_iff_eq.mpr c55
         have c55b1 : (t396 != 0) = false := bne_eq_false_iff_eq.mpr c55
         clear c55
         by_cases c56 : (t390 || (t391 || ((!(t392 == 0) || (!(t393 == 0) || (!(t394 == 0) || (!(t395 == 0)))))))) = true
         ·rw [if_pos c56] at H
          have c56b0 : (t390 || (t391 || ((!(t392 == 0) || (!(t393 == 0) || (!(t394 == 0) || (!(t395 == 0)))))))) = true := c56
          clear c56
          exact absurd ((Option.some.inj H).trans HRr.out) (by simp)
         ·rw [if_neg c56] at H
          have c56b0 : (t390 || (t391 || ((!(t392 == 0) || (!(t393 == 0) || (!(t394 == 0) || (!(t395 == 0)))))))) = false := by simpa using c56
          clear c56
          obtain ⟨ji57, hji57⟩ : ∃ j_ : Int, (wrap64 ((x7_2.length : Int) - 1)) = j_ := ⟨_, rfl⟩
          replace H : (if 0 ≤ (ji57) then (if (ji57) < (x7_2.length : Int) then ((signal_Same.f k2 t379 t380 t381 t382 t383 t384 t385 t386 t387 ((rd_T27 x7_2 (ji57)).f0) ((rd_T27 x7_2 (ji57)).f1) ((rd_T27 x7_2 (ji57)).f2) ((rd_T27 x7_2 (ji57)).f3) ((rd_T27 x7_2 (ji57)).f4.f0) ((rd_T27 x7_2 (ji57)).f4.f1) ((rd_T27 x7_2 (ji57)).f4.f2) ((rd_T27 x7_2 (ji57)).f4.f3) ((rd_T27 x7_2 (ji57)).f5)).bind fun t400 => (if t400 = true then (if (ji57) ≤ (x7_2.length : Int) then (wicketgatelaw26_SignalNests.l1 k2 (x7_2.take ((ji57) : Int).toNat) t379 t380 t381 t382 t383 t384 t385 t386 t387) else (none)) else (some false))) else (none)) else (none)) = some r := by first | (rw [hji57] at H; exact H) | (simp only [hji57] at H ⊢; exact H)
          (try rw [hji57] at A54)
          have hji57w : (IntKind.i64.wrap ((x7_2.length : Int) - 1)) = ji57 := (i64_w _).trans hji57
          by_cases c58 : 0 ≤ (ji57)
          ·rw [if_pos c58] at H
           have c58b0 : decide (0 ≤ (ji57)) = true := decide_eq_true c58
           clear c58
           by_cases c59 : (ji57) < (x7_2.length : Int)
           ·rw [if_pos c59] at H
            have c59b0 : decide ((ji57) < (x7_2.length : Int)) = true := decide_eq_true c59
            clear c59
            replace H := Option.bind_eq_some_iff.mp H
            obtain ⟨t400, A600, H⟩ := H
            replace H : (if t400 = true then (if (ji57) ≤ (x7_2.length : Int) then (wicketgatelaw26_SignalNests.l1 k2 (x7_2.take ((ji57) : Int).toNat) t379 t380 t381 t382 t383 t384 t385 t386 t387) else (none)) else (some false)) = some r := H
            have A60 := Aside0.mk A600
            clear A600
            by_cases c61 : t400 = true
            ·subst c61
             have H1 : (if (ji57) ≤ (x7_2.length : Int) then (wicketgatelaw26_SignalNests.l1 k2 (x7_2.take ((ji57) : Int).toNat) t379 t380 t381 t382 t383 t384 t385 t386 t387) else (none)) = some r := by rw [if_pos rfl] at H; exact H
             clear H
             have H := H1
             clear H1
             by_cases c62 : (ji57) ≤ (x7_2.length : Int)
             ·rw [if_pos c62] at H
              have c62b0 := eq_true c62
              have c62b1 : decide ((ji57) ≤ (x7_2.length : Int)) = true := decide_eq_true c62
              clear c62
              obtain ⟨y401, hy401⟩ : ∃ y_ : List (S27), y_ = (x7_2.take ((ji57) : Int).toNat) := ⟨_, rfl⟩
              replace H : (wicketgatelaw26_SignalNests.l1 k2 y401 t379 t380 t381 t382 t383 t384 t385 t386 t387) = some r := by first | (rw [hy401]; with_reducible exact H) | (have H2_ := (Option.bind_some _ _).symm.trans H; rw [hy401]; with_reducible exact H2_) | (have H2_ := (Option.bind_some _ _).symm.trans H; with_reducible exact H2_) | with_reducible exact H | (rw [hy401]; exact H) | exact H
              have Ny401 := Aside0.mk hy401
              clear hy401
              have H' := Aside0.mk H
              clear H
              obtain ⟨Ao63, co63, eo63⟩ := Kd.S_slice HO_7.out
              subst eo63
              have hcz64_0 : wr.cell? ⟨gb332, 0, none⟩ = some (.int .i64 x333000_2) := (blk_cell BK332.out 0).trans rfl
              have hcz64_1 : wr.cell? ⟨gb332, 1, none⟩ = some (.bool x333001_2) := (blk_cell BK332.out 1).trans rfl
              have hcz64_2 : wr.cell? ⟨gb332, 2, none⟩ = some (.bool x333002_2) := (blk_cell BK332.out 2).trans rfl
              have hcz64_3 : wr.cell? ⟨gb332, 3, none⟩ = some (.bool x333003_2) := (blk_cell BK332.out 3).trans rfl
              have hcz64_4 : wr.cell? ⟨gb332, 4, none⟩ = some (.int .i64 x333004_2) := (blk_cell BK332.out 4).trans rfl
              have hcz64_5 : wr.cell? ⟨gb332, 5, none⟩ = some (.int .i64 x333005_2) := (blk_cell BK332.out 5).trans rfl
              have hcz64_6 : wr.cell? ⟨gb332, 6, none⟩ = some (.int .u32 x333006_2) := (blk_cell BK332.out 6).trans rfl
              have hcz64_7 : wr.cell? ⟨gb332, 7, none⟩ = some (.int .u32 x333007_2) := (blk_cell BK332.out 7).trans rfl
              have hcz64_8 : wr.cell? ⟨gb332, 8, none⟩ = some (u333008) := (blk_cell BK332.out 8).trans rfl
              have hfz64_0 := blk_frozen BK332.out 0
              have hfz64_1 := blk_frozen BK332.out 1
              have hfz64_2 := blk_frozen BK332.out 2
              have hfz64_3 := blk_frozen BK332.out 3
              have hfz64_4 := blk_frozen BK332.out 4
              have hfz64_5 := blk_frozen BK332.out 5
              have hfz64_6 := blk_frozen BK332.out 6
              have hfz64_7 := blk_frozen BK332.out 7
              have hfz64_8 := blk_frozen BK332.out 8
              obtain ⟨Ao65, co65, eo65⟩ := Kd.R_slice HO_333008.out
              subst eo65
              try go_wp2_with (first | ((with_reducible refine gate_callee (f := 14) rfl ?_); refine goesL_ (some 75) rfl rfl Try.func14 (by kernel_rfl) rfl #[.agg #[.int .i64 x333000_2, .bool x333001_2, .bool x333002_2, .bool x333003_2, .int .i64 x333004_2, .int .i64 x333005_2, .int .u32 x333006_2, .int .u32 x333007_2, .slice Ao65 x333008_2.length co65]] rfl (by (try simp only [List.map_toArray, List.map_cons, List.map_nil]); first | done | rfl | (simp only [List.length_drop, List.length_take]; rfl)) ?_; (with_reducible refine (signal_Return.calls x333000_2 x333001_2 x333002_2 x333003_2 x333004_2 x333005_2 x333006_2 x333007_2 _ _ x333008_2 t379 t380 t381 t382 t383 t384 t385 t386 t387 t390 t391 t392 t393 t394 t395 t396 _ ?side1 ?side2 A54.out).mono ?_); (case side1 => repeat (first | exact (Kd.R_reads' HO_333008.out).2.2 | (with_reducible refine Kd.C_alloc ?_ _) | (with_reducible refine Kd.C_drewN ?_ _) | (with_reducible refine Kd.C_drew ?_))); (case side2 => exact (Kd.R_reads' HO_333008.out).2.1); rintro e w66 ⟨v388, rfl, ho0, hb⟩; refine ⟨_, rfl, ?_⟩; have n0_ := Aside0.mk (Kd.S_elder' (by (with_reducible repeat (first | apply Kd.S_alloc | apply Kd.S_drewN | apply Kd.S_drew)); exact HO_7.out) (Kd.R_base ho0) hb); have n1_ := Aside0.mk (Kd.R_elder' (by (with_reducible repeat (first | apply Kd.R_alloc | apply Kd.R_drewN | apply Kd.R_drew)); exact HO_333008.out) (Kd.R_base ho0) hb); have n2_ := Aside0.mk (Kd.R_lower (Kd.R_new' ho0 (Kd.R_lt (by (with_reducible repeat (first | apply Kd.R_alloc | apply Kd.R_drewN | apply Kd.R_drew)); exact HO_333008.out))) (below_size (by repeat (first | (with_reducible first | exact HB.out | apply below_alloc | apply pw_below_drewN | apply below_drew1 | refine below_set ?_ GE332.out) | exact HB.out)))); have n3_ := Aside0.mk (blk_below (g := gb332) (o := .cells #[.int .i64 x333000_2, .bool x333001_2, .bool x333002_2, .bool x333003_2, .int .i64 x333004_2, .int .i64 x333005_2, .int .u32 x333006_2, .int .u32 x333007_2, .slice Ao65 x333008_2.length co65] 27 (0, 0)) (by (with_reducible repeat (first | refine blk_drewN ?_ _ | refine blk_drew ?_ | refine blk_alloc ?_ _)); exact BK332.out) hb); have n4_ := Aside0.mk (below_step (by repeat (first | (with_reducible first | exact HB.out | apply below_alloc | apply pw_below_drewN | apply below_drew1 | refine below_set ?_ GE332.out) | exact HB.out)) hb); clear HO_7; clear HO_333008; clear BK332; clear HB; have HO_7 := n0_; have HO_333008 := n1_; have HO389 := n2_; have BK332 := n3_; have HB := n4_; clear n0_ n1_ n2_ n3_ n4_; (try clear hb); (try clear hb2); (try clear hk); (try clear hi); (try clear ho0)) | ((with_reducible refine gate_dst (N := 13) rfl ?_); (try (refine gate_guard (by rfl) ?_; dsimp only)); refine box_event ?hg (N := 13) ?hd (cs := #[.int .i64 0, .bool false, .bool false, .bool false, .int .i64 0, .int .i64 0, .int .u32 0, .int .u32 0, .slice none 0 0]) (t := 27) ?hr ?_; (case hd => rfl); (case hg => rfl); (case hr => first | (go_simp; done) | (go_simp; rfl)); intro gb397 hg w67 hbox hb; have n0_ := Aside0.mk (Kd.S_below (Kd.S_elderB (by (with_reducible repeat (first | apply Kd.S_alloc | apply Kd.S_drewN | apply Kd.S_drew)); exact HO_7.out) gb397 (Nat.le_of_eq hg.symm)) hb); have n1_ := Aside0.mk (Kd.R_below (by (with_reducible repeat (first | apply Kd.R_alloc | apply Kd.R_drewN | apply Kd.R_drew)); exact HO_333008.out) hb); have n2_ := Aside0.mk (Kd.R_below (by (with_reducible repeat (first | apply Kd.R_alloc | apply Kd.R_drewN | apply Kd.R_drew)); exact HO389.out) hb); have n3_ := Aside0.mk (blk_below (g := gb332) (o := .cells #[.int .i64 x333000_2, .bool x333001_2, .bool x333002_2, .bool x333003_2, .int .i64 x333004_2, .int .i64 x333005_2, .int .u32 x333006_2, .int .u32 x333007_2, .slice Ao65 x333008_2.length co65] 27 (0, 0)) (by (with_reducible repeat (first | refine blk_drewN ?_ _ | refine blk_drew ?_ | refine blk_alloc ?_ _)); exact BK332.out) hb); have n4_ := Aside0.mk (below_step (by repeat (first | (with_reducible first | exact HB.out | apply below_alloc | apply pw_below_drewN | apply below_drew1 | refine below_set ?_ GE332.out) | exact HB.out)) hb); have n5_ := Aside0.mk (hbox); have n6_ := Aside0.mk ((by rw [hg]; exact (below_size (by repeat (first | (with_reducible first | exact HB.out | apply below_alloc | apply pw_below_drewN | apply below_drew1 | refine below_set ?_ GE332.out) | exact HB.out))) : w.heap.size ≤ gb397)); have n7_ := Aside0.mk ((by rw [hg]; exact (below_size (by repeat (first | (with_reducible first | exact HB.out | apply below_alloc | apply pw_below_drewN | apply below_drew1 | refine below_set ?_ GE332.out) | exact HB.out))) : w.heap.size ≤ gb397)); have n8_ := Aside0.mk ((by rw [hg]; exact Nat.ne_of_lt (blk_lt (g := gb332) (o := .cells #[.int .i64 x333000_2, .bool x333001_2, .bool x333002_2, .bool x333003_2, .int .i64 x333004_2, .int .i64 x333005_2, .int .u32 x333006_2, .int .u32 x333007_2, .slice Ao65 x333008_2.length co65] 27 (0, 0)) (by (with_reducible repeat (first | refine blk_drewN ?_ _ | refine blk_drew ?_ | refine blk_alloc ?_ _)); exact BK332.out)) : gb332 ≠ gb397)); have n9_ := Aside0.mk ((by rw [hg]; exact Nat.ne_of_gt (blk_lt (g := gb332) (o := .cells #[.int .i64 x333000_2, .bool x333001_2, .bool x333002_2, .bool x333003_2, .int .i64 x333004_2, .int .i64 x333005_2, .int .u32 x333006_2, .int .u32 x333007_2, .slice Ao65 x333008_2.length co65] 27 (0, 0)) (by (with_reducible repeat (first | refine blk_drewN ?_ _ | refine blk_drew ?_ | refine blk_alloc ?_ _)); exact BK332.out)) : gb397 ≠ gb332)); clear HO_7; clear HO_333008; clear HO389; clear BK332; clear HB; have HO_7 := n0_; have HO_333008 := n1_; have HO389 := n2_; have BK332 := n3_; have HB := n4_; have BK397 := n5_; have GW397 := n6_; have GE397 := n7_; have NB332_397 := n8_; have NB397_332 := n9_; clear n0_ n1_ n2_ n3_ n4_ n5_ n6_ n7_ n8_ n9_; clear hb hbox hg) | ((with_reducible refine gate_dst (N := 14) rfl ?_); (try (refine gate_guard (by rfl) ?_; dsimp only)); refine box_event ?hg (N := 14) ?hd (cs := #[.bool false, .bool false, .int .i64 0, .int .i64 0, .int .u32 0, .int .u32 0]) (t := 33) ?hr ?_; (case hd => rfl); (case hg => rfl); (case hr => first | (go_simp; done) | (go_simp; rfl)); intro gb398 hg w68 hbox hb; have n0_ := Aside0.mk (Kd.S_below (by (with_reducible repeat (first | apply Kd.S_alloc | apply Kd.S_drewN | apply Kd.S_drew)); exact HO_7.out) hb); have n1_ := Aside0.mk (Kd.R_below (by (with_reducible repeat (first | apply Kd.R_alloc | apply Kd.R_drewN | apply Kd.R_drew)); exact HO_333008.out) hb); have n2_ := Aside0.mk (Kd.R_below (by (with_reducible repeat (first | apply Kd.R_alloc | apply Kd.R_drewN | apply Kd.R_drew)); exact HO389.out) hb); have n3_ := Aside0.mk (blk_below (g := gb332) (o := .cells #[.int .i64 x333000_2, .bool x333001_2, .bool x333002_2, .bool x333003_2, .int .i64 x333004_2, .int .i64 x333005_2, .int .u32 x333006_2, .int .u32 x333007_2, .slice Ao65 x333008_2.length co65] 27 (0, 0)) (by (with_reducible repeat (first | refine blk_drewN ?_ _ | refine blk_drew ?_ | refine blk_alloc ?_ _)); exact BK332.out) hb); have n4_ := Aside0.mk (blk_below (g := gb397) (o := .cells #[.int .i64 0, .bool false, .bool false, .bool false, .int .i64 0, .int .i64 0, .int .u32 0, .int .u32 0, .slice none 0 0] 27 (0, 0)) (by (with_reducible repeat (first | refine blk_drewN ?_ _ | refine blk_drew ?_ | refine blk_alloc ?_ _)); exact BK397.out) hb); have n5_ := Aside0.mk (below_step (by repeat (first | (with_reducible first | exact HB.out | apply below_alloc | apply pw_below_drewN | apply below_drew1 | refine below_set ?_ GE332.out | refine below_set ?_ GE397.out) | exact HB.out)) hb); have n6_ := Aside0.mk (hbox); have n7_ := Aside0.mk ((by rw [hg]; exact (below_size (by repeat (first | (with_reducible first | exact HB.out | apply below_alloc | apply pw_below_drewN | apply below_drew1 | refine below_set ?_ GE332.out | refine below_set ?_ GE397.out) | exact HB.out))) : w.heap.size ≤ gb398)); have n8_ := Aside0.mk ((by rw [hg]; exact (below_size (by repeat (first | (with_reducible first | exact HB.out | apply below_alloc | apply pw_below_drewN | apply below_drew1 | refine below_set ?_ GE332.out | refine below_set ?_ GE397.out) | exact HB.out))) : w.heap.size ≤ gb398)); have n9_ := Aside0.mk ((by rw [hg]; exact Nat.ne_of_lt (blk_lt (g := gb332) (o := .cells #[.int .i64 x333000_2, .bool x333001_2, .bool x333002_2, .bool x333003_2, .int .i64 x333004_2, .int .i64 x333005_2, .int .u32 x333006_2, .int .u32 x333007_2, .slice Ao65 x333008_2.length co65] 27 (0, 0)) (by (with_reducible repeat (first | refine blk_drewN ?_ _ | refine blk_drew ?_ | refine blk_alloc ?_ _)); exact BK332.out)) : gb332 ≠ gb398)); have n10_ := Aside0.mk ((by rw [hg]; exact Nat.ne_of_gt (blk_lt (g := gb332) (o := .cells #[.int .i64 x333000_2, .bool x333001_2, .bool x333002_2, .bool x333003_2, .int .i64 x333004_2, .int .i64 x333005_2, .int .u32 x333006_2, .int .u32 x333007_2, .slice Ao65 x333008_2.length co65] 27 (0, 0)) (by (with_reducible repeat (first | refine blk_drewN ?_ _ | refine blk_drew ?_ | refine blk_alloc ?_ _)); exact BK332.out)) : gb398 ≠ gb332)); have n11_ := Aside0.mk ((by rw [hg]; exact Nat.ne_of_lt (blk_lt (g := gb397) (o := .cells #[.int .i64 0, .bool false, .bool false, .bool false, .int .i64 0, .int .i64 0, .int .u32 0, .int .u32 0, .slice none 0 0] 27 (0, 0)) (by (with_reducible repeat (first | refine blk_drewN ?_ _ | refine blk_drew ?_ | refine blk_alloc ?_ _)); exact BK397.out)) : gb397 ≠ gb398)); have n12_ := Aside0.mk ((by rw [hg]; exact Nat.ne_of_gt (blk_lt (g := gb397) (o := .cells #[.int .i64 0, .bool false, .bool false, .bool false, .int .i64 0, .int .i64 0, .int .u32 0, .int .u32 0, .slice none 0 0] 27 (0, 0)) (by (with_reducible repeat (first | refine blk_drewN ?_ _ | refine blk_drew ?_ | refine blk_alloc ?_ _)); exact BK397.out)) : gb398 ≠ gb397)); clear HO_7; clear HO_333008; clear HO389; clear BK332; clear BK397; clear HB; have HO_7 := n0_; have HO_333008 := n1_; have HO389 := n2_; have BK332 := n3_; have BK397 := n4_; have HB := n5_; have BK398 := n6_; have GW398 := n7_; have GE398 := n8_; have NB332_398 := n9_; have NB398_332 := n10_; have NB397_398 := n11_; have NB398_397 := n12_; clear n0_ n1_ n2_ n3_ n4_ n5_ n6_ n7_ n8_ n9_ n10_ n11_ n12_; clear hb hbox hg; have hnb69 := NB397_332.out; have hnc69 := NB332_397.out; have hnb70 := NB397_398.out; have hnc70 := NB398_397.out; have hcz71_0 : w68.cell? ⟨gb397, 0, none⟩ = some (.int .i64 0) := (blk_cell BK397.out 0).trans rfl; have hcz71_1 : w68.cell? ⟨gb397, 1, none⟩ = some (.bool false) := (blk_cell BK397.out 1).trans rfl; have hcz71_2 : w68.cell? ⟨gb397, 2, none⟩ = some (.bool false) := (blk_cell BK397.out 2).trans rfl; have hcz71_3 : w68.cell? ⟨gb397, 3, none⟩ = some (.bool false) := (blk_cell BK397.out 3).trans rfl; have hcz71_4 : w68.cell? ⟨gb397, 4, none⟩ = some (.int .i64 0) := (blk_cell BK397.out 4).trans rfl; have hcz71_5 : w68.cell? ⟨gb397, 5, none⟩ = some (.int .i64 0) := (blk_cell BK397.out 5).trans rfl; have hcz71_6 : w68.cell? ⟨gb397, 6, none⟩ = some (.int .u32 0) := (blk_cell BK397.out 6).trans rfl; have hcz71_7 : w68.cell? ⟨gb397, 7, none⟩ = some (.int .u32 0) := (blk_cell BK397.out 7).trans rfl; have hcz71_8 : w68.cell? ⟨gb397, 8, none⟩ = some (.slice none 0 0) := (blk_cell BK397.out 8).trans rfl; have hfz71_0 := blk_frozen BK397.out 0; have hfz71_1 := blk_frozen BK397.out 1; have hfz71_2 := blk_frozen BK397.out 2; have hfz71_3 := blk_frozen BK397.out 3; have hfz71_4 := blk_frozen BK397.out 4; have hfz71_5 := blk_frozen BK397.out 5; have hfz71_6 := blk_frozen BK397.out 6; have hfz71_7 := blk_frozen BK397.out 7; have hfz71_8 := blk_frozen BK397.out 8; obtain ⟨Ao72, co72, eo72⟩ := Kd.R_slice HO389.out; subst eo72; have hnb73 := NB398_332.out; have hnc73 := NB332_398.out; have hcz74_0 : w68.cell? ⟨gb398, 0, none⟩ = some (.bool false) := (blk_cell BK398.out 0).trans rfl; have hcz74_1 : w68.cell? ⟨gb398, 1, none⟩ = some (.bool false) := (blk_cell BK398.out 1).trans rfl; have hcz74_2 : w68.cell? ⟨gb398, 2, none⟩ = some (.int .i64 0) := (blk_cell BK398.out 2).trans rfl; have hcz74_3 : w68.cell? ⟨gb398, 3, none⟩ = some (.int .i64 0) := (blk_cell BK398.out 3).trans rfl; have hcz74_4 : w68.cell? ⟨gb398, 4, none⟩ = some (.int .u32 0) := (blk_cell BK398.out 4).trans rfl; have hcz74_5 : w68.cell? ⟨gb398, 5, none⟩ = some (.int .u32 0) := (blk_cell BK398.out 5).trans rfl; have hfz74_0 := blk_frozen BK398.out 0; have hfz74_1 := blk_frozen BK398.out 1; have hfz74_2 := blk_frozen BK398.out 2; have hfz74_3 := blk_frozen BK398.out 3; have hfz74_4 := blk_frozen BK398.out 4; have hfz74_5 := blk_frozen BK398.out 5))
              have n0_ : Aside0 (Kd.S k27 27 (((((((((((((((w68.setCell ⟨gb397, 0, none⟩ (.int .i64 t379)).setCell ⟨gb397, 1, none⟩ (.bool t380)).setCell ⟨gb397, 2, none⟩ (.bool t381)).setCell ⟨gb397, 3, none⟩ (.bool t382)).setCell ⟨gb397, 4, none⟩ (.int .i64 t383)).setCell ⟨gb397, 5, none⟩ (.int .i64 t384)).setCell ⟨gb397, 6, none⟩ (.int .u32 t385)).setCell ⟨gb397, 7, none⟩ (.int .u32 t386)).setCell ⟨gb397, 8, none⟩ (.slice Ao72 t387.length co72)).setCell ⟨gb398, 0, none⟩ (.bool t390)).setCell ⟨gb398, 1, none⟩ (.bool t391)).setCell ⟨gb398, 2, none⟩ (.int .i64 t392)).setCell ⟨gb398, 3, none⟩ (.int .i64 t393)).setCell ⟨gb398, 4, none⟩ (.int .u32 t394)).setCell ⟨gb398, 5, none⟩ (.int .u32 t395)) w.heap.size (fun k_ => some k_ ≠ (.slice Ao65 x333008_2.length co65 : Value).ownBlock ∧ some k_ ≠ (.slice Ao72 t387.length co72 : Value).ownBlock ∧ k_ ≠ gb332 ∧ k_ ≠ gb397) (.slice Ao63 x7_2.length co63) x7_2) := ⟨by (with_reducible repeat (first | apply Kd.S_alloc | apply Kd.S_drewN | apply Kd.S_drew)); exact Kd.S_mono (Kd.S_far (p := ⟨gb398, 5, none⟩) (Kd.S_far (p := ⟨gb398, 4, none⟩) (Kd.S_far (p := ⟨gb398, 3, none⟩) (Kd.S_far (p := ⟨gb398, 2, none⟩) (Kd.S_far (p := ⟨gb398, 1, none⟩) (Kd.S_far (p := ⟨gb398, 0, none⟩) (Kd.S_far (p := ⟨gb397, 8, none⟩) (Kd.S_far (p := ⟨gb397, 7, none⟩) (Kd.S_far (p := ⟨gb397, 6, none⟩) (Kd.S_far (p := ⟨gb397, 5, none⟩) (Kd.S_far (p := ⟨gb397, 4, none⟩) (Kd.S_far (p := ⟨gb397, 3, none⟩) (Kd.S_far (p := ⟨gb397, 2, none⟩) (Kd.S_far (p := ⟨gb397, 1, none⟩) (Kd.S_far (p := ⟨gb397, 0, none⟩) (Kd.S_types (Kd.S_mono HO_7.out (fun k_ hk => (⟨hk, hk.2⟩ : _ ∧ k_ ≠ gb397))) BK398.out (by decide)) (fun _ hk => hk.1.2) (.int .i64 t379)) (fun _ hk => hk.1.2) (.bool t380)) (fun _ hk => hk.1.2) (.bool t381)) (fun _ hk => hk.1.2) (.bool t382)) (fun _ hk => hk.1.2) (.int .i64 t383)) (fun _ hk => hk.1.2) (.int .i64 t384)) (fun _ hk => hk.1.2) (.int .u32 t385)) (fun _ hk => hk.1.2) (.int .u32 t386)) (fun _ hk => hk.1.2) (.slice Ao72 t387.length co72)) (fun _ hk => hk.2) (.bool t390)) (fun _ hk => hk.2) (.bool t391)) (fun _ hk => hk.2) (.int .i64 t392)) (fun _ hk => hk.2) (.int .i64 t393)) (fun _ hk => hk.2) (.int .u32 t394)) (fun _ hk => hk.2) (.int .u32 t395)) (fun _ hk => ⟨hk.1.1.1.1.1, ⟨hk.1.1.1.2, ⟨hk.1.1.1.1.2, hk.1.1.2⟩⟩⟩)⟩
              have n1_ : Aside0 (Kd.R Kd.bool 4 (((((((((((((((w68.setCell ⟨gb397, 0, none⟩ (.int .i64 t379)).setCell ⟨gb397, 1, none⟩ (.bool t380)).setCell ⟨gb397, 2, none⟩ (.bool t381)).setCell ⟨gb397, 3, none⟩ (.bool t382)).setCell ⟨gb397, 4, none⟩ (.int .i64 t383)).setCell ⟨gb397, 5, none⟩ (.int .i64 t384)).setCell ⟨gb397, 6, none⟩ (.int .u32 t385)).setCell ⟨gb397, 7, none⟩ (.int .u32 t386)).setCell ⟨gb397, 8, none⟩ (.slice Ao72 t387.length co72)).setCell ⟨gb398, 0, none⟩ (.bool t390)).setCell ⟨gb398, 1, none⟩ (.bool t391)).setCell ⟨gb398, 2, none⟩ (.int .i64 t392)).setCell ⟨gb398, 3, none⟩ (.int .i64 t393)).setCell ⟨gb398, 4, none⟩ (.int .u32 t394)).setCell ⟨gb398, 5, none⟩ (.int .u32 t395)) w.heap.size (fun k_ => some k_ ≠ (.slice Ao72 t387.length co72 : Value).ownBlock) (.slice Ao65 x333008_2.length co65) x333008_2) := ⟨by (with_reducible repeat (first | apply Kd.R_alloc | apply Kd.R_drewN | apply Kd.R_drew)); exact Kd.R_mono (Kd.R_far (p := ⟨gb398, 5, none⟩) (Kd.R_far (p := ⟨gb398, 4, none⟩) (Kd.R_far (p := ⟨gb398, 3, none⟩) (Kd.R_far (p := ⟨gb398, 2, none⟩) (Kd.R_far (p := ⟨gb398, 1, none⟩) (Kd.R_far (p := ⟨gb398, 0, none⟩) (Kd.R_far (p := ⟨gb397, 8, none⟩) (Kd.R_far (p := ⟨gb397, 7, none⟩) (Kd.R_far (p := ⟨gb397, 6, none⟩) (Kd.R_far (p := ⟨gb397, 5, none⟩) (Kd.R_far (p := ⟨gb397, 4, none⟩) (Kd.R_far (p := ⟨gb397, 3, none⟩) (Kd.R_far (p := ⟨gb397, 2, none⟩) (Kd.R_far (p := ⟨gb397, 1, none⟩) (Kd.R_far (p := ⟨gb397, 0, none⟩) (Kd.R_types (Kd.R_types HO_333008.out BK397.out (by decide)) BK398.out (by decide)) (fun _ hk => hk.1.2) (.int .i64 t379)) (fun _ hk => hk.1.2) (.bool t380)) (fun _ hk => hk.1.2) (.bool t381)) (fun _ hk => hk.1.2) (.bool t382)) (fun _ hk => hk.1.2) (.int .i64 t383)) (fun _ hk => hk.1.2) (.int .i64 t384)) (fun _ hk => hk.1.2) (.int .u32 t385)) (fun _ hk => hk.1.2) (.int .u32 t386)) (fun _ hk => hk.1.2) (.slice Ao72 t387.length co72)) (fun _ hk => hk.2) (.bool t390)) (fun _ hk => hk.2) (.bool t391)) (fun _ hk => hk.2) (.int .i64 t392)) (fun _ hk => hk.2) (.int .i64 t393)) (fun _ hk => hk.2) (.int .u32 t394)) (fun _ hk => hk.2) (.int .u32 t395)) (fun _ hk => hk.1.1.2)⟩
              have n2_ : Aside0 (Kd.R Kd.bool 4 (((((((((((((((w68.setCell ⟨gb397, 0, none⟩ (.int .i64 t379)).setCell ⟨gb397, 1, none⟩ (.bool t380)).setCell ⟨gb397, 2, none⟩ (.bool t381)).setCell ⟨gb397, 3, none⟩ (.bool t382)).setCell ⟨gb397, 4, none⟩ (.int .i64 t383)).setCell ⟨gb397, 5, none⟩ (.int .i64 t384)).setCell ⟨gb397, 6, none⟩ (.int .u32 t385)).setCell ⟨gb397, 7, none⟩ (.int .u32 t386)).setCell ⟨gb397, 8, none⟩ (.slice Ao72 t387.length co72)).setCell ⟨gb398, 0, none⟩ (.bool t390)).setCell ⟨gb398, 1, none⟩ (.bool t391)).setCell ⟨gb398, 2, none⟩ (.int .i64 t392)).setCell ⟨gb398, 3, none⟩ (.int .i64 t393)).setCell ⟨gb398, 4, none⟩ (.int .u32 t394)).setCell ⟨gb398, 5, none⟩ (.int .u32 t395)) w.heap.size (fun k_ => some k_ ≠ (.slice Ao65 x333008_2.length co65 : Value).ownBlock) (.slice Ao72 t387.length co72) t387) := ⟨by (with_reducible repeat (first | apply Kd.R_alloc | apply Kd.R_drewN | apply Kd.R_drew)); exact Kd.R_mono (Kd.R_far (p := ⟨gb398, 5, none⟩) (Kd.R_far (p := ⟨gb398, 4, none⟩) (Kd.R_far (p := ⟨gb398, 3, none⟩) (Kd.R_far (p := ⟨gb398, 2, none⟩) (Kd.R_far (p := ⟨gb398, 1, none⟩) (Kd.R_far (p := ⟨gb398, 0, none⟩) (Kd.R_far (p := ⟨gb397, 8, none⟩) (Kd.R_far (p := ⟨gb397, 7, none⟩) (Kd.R_far (p := ⟨gb397, 6, none⟩) (Kd.R_far (p := ⟨gb397, 5, none⟩) (Kd.R_far (p := ⟨gb397, 4, none⟩) (Kd.R_far (p := ⟨gb397, 3, none⟩) (Kd.R_far (p := ⟨gb397, 2, none⟩) (Kd.R_far (p := ⟨gb397, 1, none⟩) (Kd.R_far (p := ⟨gb397, 0, none⟩) (Kd.R_types (Kd.R_types HO389.out BK397.out (by decide)) BK398.out (by decide)) (fun _ hk => hk.1.2) (.int .i64 t379)) (fun _ hk => hk.1.2) (.bool t380)) (fun _ hk => hk.1.2) (.bool t381)) (fun _ hk => hk.1.2) (.bool t382)) (fun _ hk => hk.1.2) (.int .i64 t383)) (fun _ hk => hk.1.2) (.int .i64 t384)) (fun _ hk => hk.1.2) (.int .u32 t385)) (fun _ hk => hk.1.2) (.int .u32 t386)) (fun _ hk => hk.1.2) (.slice Ao72 t387.length co72)) (fun _ hk => hk.2) (.bool t390)) (fun _ hk => hk.2) (.bool t391)) (fun _ hk => hk.2) (.int .i64 t392)) (fun _ hk => hk.2) (.int .i64 t393)) (fun _ hk => hk.2) (.int .u32 t394)) (fun _ hk => hk.2) (.int .u32 t395)) (fun _ hk => hk.1.1.2)⟩
              have n3_ : Aside0 ((((((((((((((((w68.setCell ⟨gb397, 0, none⟩ (.int .i64 t379)).setCell ⟨gb397, 1, none⟩ (.bool t380)).setCell ⟨gb397, 2, none⟩ (.bool t381)).setCell ⟨gb397, 3, none⟩ (.bool t382)).setCell ⟨gb397, 4, none⟩ (.int .i64 t383)).setCell ⟨gb397, 5, none⟩ (.int .i64 t384)).setCell ⟨gb397, 6, none⟩ (.int .u32 t385)).setCell ⟨gb397, 7, none⟩ (.int .u32 t386)).setCell ⟨gb397, 8, none⟩ (.slice Ao72 t387.length co72)).setCell ⟨gb398, 0, none⟩ (.bool t390)).setCell ⟨gb398, 1, none⟩ (.bool t391)).setCell ⟨gb398, 2, none⟩ (.int .i64 t392)).setCell ⟨gb398, 3, none⟩ (.int .i64 t393)).setCell ⟨gb398, 4, none⟩ (.int .u32 t394)).setCell ⟨gb398, 5, none⟩ (.int .u32 t395)).heap[gb332]? = some (.cells #[.int .i64 x333000_2, .bool x333001_2, .bool x333002_2, .bool x333003_2, .int .i64 x333004_2, .int .i64 x333005_2, .int .u32 x333006_2, .int .u32 x333007_2, .slice Ao65 x333008_2.length co65] 27 (0, 0))) := ⟨by (with_reducible repeat (first | refine blk_drewN ?_ _ | refine blk_drew ?_ | refine blk_alloc ?_ _)); refine blk_far ?_ NB332_398.out _; (with_reducible repeat (first | refine blk_drewN ?_ _ | refine blk_drew ?_ | refine blk_alloc ?_ _)); refine blk_far ?_ NB332_398.out _; (with_reducible repeat (first | refine blk_drewN ?_ _ | refine blk_drew ?_ | refine blk_alloc ?_ _)); refine blk_far ?_ NB332_398.out _; (with_reducible repeat (first | refine blk_drewN ?_ _ | refine blk_drew ?_ | refine blk_alloc ?_ _)); refine blk_far ?_ NB332_398.out _; (with_reducible repeat (first | refine blk_drewN ?_ _ | refine blk_drew ?_ | refine blk_alloc ?_ _)); refine blk_far ?_ NB332_398.out _; (with_reducible repeat (first | refine blk_drewN ?_ _ | refine blk_drew ?_ | refine blk_alloc ?_ _)); refine blk_far ?_ NB332_398.out _; (with_reducible repeat (first | refine blk_drewN ?_ _ | refine blk_drew ?_ | refine blk_alloc ?_ _)); refine blk_far ?_ NB332_397.out _; (with_reducible repeat (first | refine blk_drewN ?_ _ | refine blk_drew ?_ | refine blk_alloc ?_ _)); refine blk_far ?_ NB332_397.out _; (with_reducible repeat (first | refine blk_drewN ?_ _ | refine blk_drew ?_ | refine blk_alloc ?_ _)); refine blk_far ?_ NB332_397.out _; (with_reducible repeat (first | refine blk_drewN ?_ _ | refine blk_drew ?_ | refine blk_alloc ?_ _)); refine blk_far ?_ NB332_397.out _; (with_reducible repeat (first | refine blk_drewN ?_ _ | refine blk_drew ?_ | refine blk_alloc ?_ _)); refine blk_far ?_ NB332_397.out _; (with_reducible repeat (first | refine blk_drewN ?_ _ | refine blk_drew ?_ | refine blk_alloc ?_ _)); refine blk_far ?_ NB332_397.out _; (with_reducible repeat (first | refine blk_drewN ?_ _ | refine blk_drew ?_ | refine blk_alloc ?_ _)); refine blk_far ?_ NB332_397.out _; (with_reducible repeat (first | refine blk_drewN ?_ _ | refine blk_drew ?_ | refine blk_alloc ?_ _)); refine blk_far ?_ NB332_397.out _; (with_reducible repeat (first | refine blk_drewN ?_ _ | refine blk_drew ?_ | refine blk_alloc ?_ _)); refine blk_far ?_ NB332_397.out _; (with_reducible repeat (first | refine blk_drewN ?_ _ | refine blk_drew ?_ | refine blk_alloc ?_ _)); exact BK332.out⟩
              have n4_ : Aside0 ((((((((((((((((w68.setCell ⟨gb397, 0, none⟩ (.int .i64 t379)).setCell ⟨gb397, 1, none⟩ (.bool t380)).setCell ⟨gb397, 2, none⟩ (.bool t381)).setCell ⟨gb397, 3, none⟩ (.bool t382)).setCell ⟨gb397, 4, none⟩ (.int .i64 t383)).setCell ⟨gb397, 5, none⟩ (.int .i64 t384)).setCell ⟨gb397, 6, none⟩ (.int .u32 t385)).setCell ⟨gb397, 7, none⟩ (.int .u32 t386)).setCell ⟨gb397, 8, none⟩ (.slice Ao72 t387.length co72)).setCell ⟨gb398, 0, none⟩ (.bool t390)).setCell ⟨gb398, 1, none⟩ (.bool t391)).setCell ⟨gb398, 2, none⟩ (.int .i64 t392)).setCell ⟨gb398, 3, none⟩ (.int .i64 t393)).setCell ⟨gb398, 4, none⟩ (.int .u32 t394)).setCell ⟨gb398, 5, none⟩ (.int .u32 t395)).heap[gb397]? = some (.cells #[.int .i64 t379, .bool t380, .bool t381, .bool t382, .int .i64 t383, .int .i64 t384, .int .u32 t385, .int .u32 t386, .slice Ao72 t387.length co72] 27 (0, 0))) := ⟨by (with_reducible repeat (first | refine blk_drewN ?_ _ | refine blk_drew ?_ | refine blk_alloc ?_ _)); refine blk_far ?_ NB397_398.out _; (with_reducible repeat (first | refine blk_drewN ?_ _ | refine blk_drew ?_ | refine blk_alloc ?_ _)); refine blk_far ?_ NB397_398.out _; (with_reducible repeat (first | refine blk_drewN ?_ _ | refine blk_drew ?_ | refine blk_alloc ?_ _)); refine blk_far ?_ NB397_398.out _; (with_reducible repeat (first | refine blk_drewN ?_ _ | refine blk_drew ?_ | refine blk_alloc ?_ _)); refine blk_far ?_ NB397_398.out _; (with_reducible repeat (first | refine blk_drewN ?_ _ | refine blk_drew ?_ | refine blk_alloc ?_ _)); refine blk_far ?_ NB397_398.out _; (with_reducible repeat (first | refine blk_drewN ?_ _ | refine blk_drew ?_ | refine blk_alloc ?_ _)); refine blk_far ?_ NB397_398.out _; (with_reducible repeat (first | refine blk_drewN ?_ _ | refine blk_drew ?_ | refine blk_alloc ?_ _)); refine blk_put (cs := #[.int .i64 t379, .bool t380, .bool t381, .bool t382, .int .i64 t383, .int .i64 t384, .int .u32 t385, .int .u32 t386, .slice none 0 0]) ?_ 8 _ rfl; (with_reducible repeat (first | refine blk_drewN ?_ _ | refine blk_drew ?_ | refine blk_alloc ?_ _)); refine blk_put (cs := #[.int .i64 t379, .bool t380, .bool t381, .bool t382, .int .i64 t383, .int .i64 t384, .int .u32 t385, .int .u32 0, .slice none 0 0]) ?_ 7 _ rfl; (with_reducible repeat (first | refine blk_drewN ?_ _ | refine blk_drew ?_ | refine blk_alloc ?_ _)); refine blk_put (cs := #[.int .i64 t379, .bool t380, .bool t381, .bool t382, .int .i64 t383, .int .i64 t384, .int .u32 0, .int .u32 0, .slice none 0 0]) ?_ 6 _ rfl; (with_reducible repeat (first | refine blk_drewN ?_ _ | refine blk_drew ?_ | refine blk_alloc ?_ _)); refine blk_put (cs := #[.int .i64 t379, .bool t380, .bool t381, .bool t382, .int .i64 t383, .int .i64 0, .int .u32 0, .int .u32 0, .slice none 0 0]) ?_ 5 _ rfl; (with_reducible repeat (first | refine blk_drewN ?_ _ | refine blk_drew ?_ | refine blk_alloc ?_ _)); refine blk_put (cs := #[.int .i64 t379, .bool t380, .bool t381, .bool t382, .int .i64 0, .int .i64 0, .int .u32 0, .int .u32 0, .slice none 0 0]) ?_ 4 _ rfl; (with_reducible repeat (first | refine blk_drewN ?_ _ | refine blk_drew ?_ | refine blk_alloc ?_ _)); refine blk_put (cs := #[.int .i64 t379, .bool t380, .bool t381, .bool false, .int .i64 0, .int .i64 0, .int .u32 0, .int .u32 0, .slice none 0 0]) ?_ 3 _ rfl; (with_reducible repeat (first | refine blk_drewN ?_ _ | refine blk_drew ?_ | refine blk_alloc ?_ _)); refine blk_put (cs := #[.int .i64 t379, .bool t380, .bool false, .bool false, .int .i64 0, .int .i64 0, .int .u32 0, .int .u32 0, .slice none 0 0]) ?_ 2 _ rfl; (with_reducible repeat (first | refine blk_drewN ?_ _ | refine blk_drew ?_ | refine blk_alloc ?_ _)); refine blk_put (cs := #[.int .i64 t379, .bool false, .bool false, .bool false, .int .i64 0, .int .i64 0, .int .u32 0, .int .u32 0, .slice none 0 0]) ?_ 1 _ rfl; (with_reducible repeat (first | refine blk_drewN ?_ _ | refine blk_drew ?_ | refine blk_alloc ?_ _)); refine blk_put (cs := #[.int .i64 0, .bool false, .bool false, .bool false, .int .i64 0, .int .i64 0, .int .u32 0, .int .u32 0, .slice none 0 0]) ?_ 0 _ rfl; (with_reducible repeat (first | refine blk_drewN ?_ _ | refine blk_drew ?_ | refine blk_alloc ?_ _)); exact BK397.out⟩
              have n5_ : Aside0 ((((((((((((((((w68.setCell ⟨gb397, 0, none⟩ (.int .i64 t379)).setCell ⟨gb397, 1, none⟩ (.bool t380)).setCell ⟨gb397, 2, none⟩ (.bool t381)).setCell ⟨gb397, 3, none⟩ (.bool t382)).setCell ⟨gb397, 4, none⟩ (.int .i64 t383)).setCell ⟨gb397, 5, none⟩ (.int .i64 t384)).setCell ⟨gb397, 6, none⟩ (.int .u32 t385)).setCell ⟨gb397, 7, none⟩ (.int .u32 t386)).setCell ⟨gb397, 8, none⟩ (.slice Ao72 t387.length co72)).setCell ⟨gb398, 0, none⟩ (.bool t390)).setCell ⟨gb398, 1, none⟩ (.bool t391)).setCell ⟨gb398, 2, none⟩ (.int .i64 t392)).setCell ⟨gb398, 3, none⟩ (.int .i64 t393)).setCell ⟨gb398, 4, none⟩ (.int .u32 t394)).setCell ⟨gb398, 5, none⟩ (.int .u32 t395)).heap[gb398]? = some (.cells #[.bool t390, .bool t391, .int .i64 t392, .int .i64 t393, .int .u32 t394, .int .u32 t395] 33 (0, 0))) := ⟨by (with_reducible repeat (first | refine blk_drewN ?_ _ | refine blk_drew ?_ | refine blk_alloc ?_ _)); refine blk_put (cs := #[.bool t390, .bool t391, .int .i64 t392, .int .i64 t393, .int .u32 t394, .int .u32 0]) ?_ 5 _ rfl; (with_reducible repeat (first | refine blk_drewN ?_ _ | refine blk_drew ?_ | refine blk_alloc ?_ _)); refine blk_put (cs := #[.bool t390, .bool t391, .int .i64 t392, .int .i64 t393, .int .u32 0, .int .u32 0]) ?_ 4 _ rfl; (with_reducible repeat (first | refine blk_drewN ?_ _ | refine blk_drew ?_ | refine blk_alloc ?_ _)); refine blk_put (cs := #[.bool t390, .bool t391, .int .i64 t392, .int .i64 0, .int .u32 0, .int .u32 0]) ?_ 3 _ rfl; (with_reducible repeat (first | refine blk_drewN ?_ _ | refine blk_drew ?_ | refine blk_alloc ?_ _)); refine blk_put (cs := #[.bool t390, .bool t391, .int .i64 0, .int .i64 0, .int .u32 0, .int .u32 0]) ?_ 2 _ rfl; (with_reducible repeat (first | refine blk_drewN ?_ _ | refine blk_drew ?_ | refine blk_alloc ?_ _)); refine blk_put (cs := #[.bool t390, .bool false, .int .i64 0, .int .i64 0, .int .u32 0, .int .u32 0]) ?_ 1 _ rfl; (with_reducible repeat (first | refine blk_drewN ?_ _ | refine blk_drew ?_ | refine blk_alloc ?_ _)); refine blk_put (cs := #[.bool false, .bool false, .int .i64 0, .int .i64 0, .int .u32 0, .int .u32 0]) ?_ 0 _ rfl; (with_reducible repeat (first | refine blk_drewN ?_ _ | refine blk_drew ?_ | refine blk_alloc ?_ _)); refine blk_far ?_ NB398_397.out _; (with_reducible repeat (first | refine blk_drewN ?_ _ | refine blk_drew ?_ | refine blk_alloc ?_ _)); refine blk_far ?_ NB398_397.out _; (with_reducible repeat (first | refine blk_drewN ?_ _ | refine blk_drew ?_ | refine blk_alloc ?_ _)); refine blk_far ?_ NB398_397.out _; (with_reducible repeat (first | refine blk_drewN ?_ _ | refine blk_drew ?_ | refine blk_alloc ?_ _)); refine blk_far ?_ NB398_397.out _; (with_reducible repeat (first | refine blk_drewN ?_ _ | refine blk_drew ?_ | refine blk_alloc ?_ _)); refine blk_far ?_ NB398_397.out _; (with_reducible repeat (first | refine blk_drewN ?_ _ | refine blk_drew ?_ | refine blk_alloc ?_ _)); refine blk_far ?_ NB398_397.out _; (with_reducible repeat (first | refine blk_drewN ?_ _ | refine blk_drew ?_ | refine blk_alloc ?_ _)); refine blk_far ?_ NB398_397.out _; (with_reducible repeat (first | refine blk_drewN ?_ _ | refine blk_drew ?_ | refine blk_alloc ?_ _)); refine blk_far ?_ NB398_397.out _; (with_reducible repeat (first | refine blk_drewN ?_ _ | refine blk_drew ?_ | refine blk_alloc ?_ _)); refine blk_far ?_ NB398_397.out _; (with_reducible repeat (first | refine blk_drewN ?_ _ | refine blk_drew ?_ | refine blk_alloc ?_ _)); exact BK398.out⟩
              have n6_ : Aside0 (Below w.heap.size w (((((((((((((((w68.setCell ⟨gb397, 0, none⟩ (.int .i64 t379)).setCell ⟨gb397, 1, none⟩ (.bool t380)).setCell ⟨gb397, 2, none⟩ (.bool t381)).setCell ⟨gb397, 3, none⟩ (.bool t382)).setCell ⟨gb397, 4, none⟩ (.int .i64 t383)).setCell ⟨gb397, 5, none⟩ (.int .i64 t384)).setCell ⟨gb397, 6, none⟩ (.int .u32 t385)).setCell ⟨gb397, 7, none⟩ (.int .u32 t386)).setCell ⟨gb397, 8, none⟩ (.slice Ao72 t387.length co72)).setCell ⟨gb398, 0, none⟩ (.bool t390)).setCell ⟨gb398, 1, none⟩ (.bool t391)).setCell ⟨gb398, 2, none⟩ (.int .i64 t392)).setCell ⟨gb398, 3, none⟩ (.int .i64 t393)).setCell ⟨gb398, 4, none⟩ (.int .u32 t394)).setCell ⟨gb398, 5, none⟩ (.int .u32 t395))) := ⟨by repeat (first | (with_reducible first | exact HB.out | apply below_alloc | apply pw_below_drewN | apply below_drew1 | refine below_set ?_ GE332.out | refine below_set ?_ GE397.out | refine below_set ?_ GE398.out) | exact HB.out)⟩
              (try clear HO_7)
              (try clear HO_333008)
              (try clear HO389)
              (try clear BK332)
              (try clear BK397)
              (try clear BK398)
              (try clear HB)
              generalize (((((((((((((((w68.setCell ⟨gb397, 0, none⟩ (.int .i64 t379)).setCell ⟨gb397, 1, none⟩ (.bool t380)).setCell ⟨gb397, 2, none⟩ (.bool t381)).setCell ⟨gb397, 3, none⟩ (.bool t382)).setCell ⟨gb397, 4, none⟩ (.int .i64 t383)).setCell ⟨gb397, 5, none⟩ (.int .i64 t384)).setCell ⟨gb397, 6, none⟩ (.int .u32 t385)).setCell ⟨gb397, 7, none⟩ (.int .u32 t386)).setCell ⟨gb397, 8, none⟩ (.slice Ao72 t387.length co72)).setCell ⟨gb398, 0, none⟩ (.bool t390)).setCell ⟨gb398, 1, none⟩ (.bool t391)).setCell ⟨gb398, 2, none⟩ (.int .i64 t392)).setCell ⟨gb398, 3, none⟩ (.int .i64 t393)).setCell ⟨gb398, 4, none⟩ (.int .u32 t394)).setCell ⟨gb398, 5, none⟩ (.int .u32 t395)) = w75 at n0_ n1_ n2_ n3_ n4_ n5_ n6_ ⊢
              have HO_7 := n0_
              have HO_333008 := n1_
              have HO389 := n2_
              have BK332 := n3_
              have BK397 := n4_
              have BK398 := n5_
              have HB := n6_
              clear n0_ n1_ n2_ n3_ n4_ n5_ n6_
              have n0_ := Aside0.mk (Kd.S_drew HO_7.out)
              have n1_ := Aside0.mk (Kd.R_drew HO_333008.out)
              have n2_ := Aside0.mk (Kd.R_drew HO389.out)
              have n3_ := Aside0.mk (blk_drew BK332.out)
              have n4_ := Aside0.mk (blk_drew BK397.out)
              have n5_ := Aside0.mk (blk_drew BK398.out)
              have n6_ := Aside0.mk (below_drew1 HB.out)
              clear HO_7
              clear HO_333008
              clear HO389
              clear BK332
              clear BK397
              clear BK398
              clear HB
              have HO_7 := n0_
              have HO_333008 := n1_
              have HO389 := n2_
              have BK332 := n3_
              have BK397 := n4_
              have BK398 := n5_
              have HB := n6_
              clear n0_ n1_ n2_ n3_ n4_ n5_ n6_
              have p399 : 0 ≤ ((ji57) : Int) := of_decide_eq_true (by first | (with_reducible assumption) | assumption)
              have q399 : (ji57) < (x7_2.length : Int) := of_decide_eq_true (by first | (with_reducible assumption) | assumption)
              obtain ⟨ad399, A399_8, c399_8, e399, hx399_0, hx399_1, hx399_2, hx399_3, hx399_4, hx399_5, hx399_6, hx399_7, hx399_8, hl399_8, hi399_8⟩ := at_T27 (Kd.S_reads' HO_7.out).2.2 (ji57) p399 q399
              cases e399
              obtain ⟨ce399, hce399, hMe399, hcc399⟩ := Kd.S_get HO_7.out z27 (ji57) p399 (by first | exact q399 | exact of_decide_eq_true (by first | (with_reducible assumption) | assumption) | (have e_ := (Kd.S_reads' HO_7.out).1; omega))
              obtain ⟨ve399_8, rfl, ge399_8⟩ := k27_openM hMe399
              have hv399_8 := hcc399 8 _ rfl
              rw [add_field _ _ 8 (by omega)] at hv399_8
              replace hv399_8 := Option.some.inj (hv399_8.symm.trans hx399_8)
              rw [hv399_8] at ge399_8
              have HL399_8 := Aside0.mk (show Kd.R Kd.bool 4 _ _ _ _ ((rd_T27 x7_2 (ji57)).f5) from ge399_8)
              clear hv399_8 ge399_8
              clear hcc399 hce399
              have HR399_8 := Aside0.mk hi399_8
              have HC399_8 := Aside0.mk hl399_8
              clear hi399_8 hl399_8
              replace p399 := eq_true p399
              replace q399 := eq_true q399
              refine start_ (n := 18) (S := fun w' => w'.cell? ⟨gb398, 0, none⟩ = some (.bool t390) ∧ w'.cell? ⟨gb398, 1, none⟩ = some (.bool t391) ∧ w'.cell? ⟨gb398, 2, none⟩ = some (.int .i64 t392) ∧ w'.cell? ⟨gb398, 3, none⟩ = some (.int .i64 t393) ∧ w'.cell? ⟨gb398, 4, none⟩ = some (.int .u32 t394) ∧ w'.cell? ⟨gb398, 5, none⟩ = some (.int .u32 t395) ∧ w'.cell? ⟨gb397, 0, none⟩ = some (.int .i64 t379) ∧ w'.cell? ⟨gb397, 1, none⟩ = some (.bool t380) ∧ w'.cell? ⟨gb397, 2, none⟩ = some (.bool t381) ∧ w'.cell? ⟨gb397, 3, none⟩ = some (.bool t382) ∧ w'.cell? ⟨gb397, 4, none⟩ = some (.int .i64 t383) ∧ w'.cell? ⟨gb397, 5, none⟩ = some (.int .i64 t384) ∧ w'.cell? ⟨gb397, 6, none⟩ = some (.int .u32 t385) ∧ w'.cell? ⟨gb397, 7, none⟩ = some (.int .u32 t386) ∧ w'.cell? ⟨gb397, 8, none⟩ = some (.slice Ao72 t387.length co72) ∧ w'.cell? (ad399.add (((ji57)).toNat * 9)) = some (.int .i64 ((rd_T27 x7_2 (ji57)).f0)) ∧ w'.cell? ⟨(ad399.add (((ji57)).toNat * 9)).block, (ad399.add (((ji57)).toNat * 9)).off + 1, none⟩ = some (.bool ((rd_T27 x7_2 (ji57)).f1)) ∧ w'.cell? ⟨(ad399.add (((ji57)).toNat * 9)).block, (ad399.add (((ji57)).toNat * 9)).off + 2, none⟩ = some (.bool ((rd_T27 x7_2 (ji57)).f2)) ∧ w'.cell? ⟨(ad399.add (((ji57)).toNat * 9)).block, (ad399.add (((ji57)).toNat * 9)).off + 3, none⟩ = some (.bool ((rd_T27 x7_2 (ji57)).f3)) ∧ w'.cell? ⟨(ad399.add (((ji57)).toNat * 9)).block, (ad399.add (((ji57)).toNat * 9)).off + 4, none⟩ = some (.int .i64 ((rd_T27 x7_2 (ji57)).f4.f0)) ∧ w'.cell? ⟨(ad399.add (((ji57)).toNat * 9)).block, (ad399.add (((ji57)).toNat * 9)).off + 5, none⟩ = some (.int .i64 ((rd_T27 x7_2 (ji57)).f4.f1)) ∧ w'.cell? ⟨(ad399.add (((ji57)).toNat * 9)).block, (ad399.add (((ji57)).toNat * 9)).off + 6, none⟩ = some (.int .u32 ((rd_T27 x7_2 (ji57)).f4.f2)) ∧ w'.cell? ⟨(ad399.add (((ji57)).toNat * 9)).block, (ad399.add (((ji57)).toNat * 9)).off + 7, none⟩ = some (.int .u32 ((rd_T27 x7_2 (ji57)).f4.f3)) ∧ w'.cell? ⟨(ad399.add (((ji57)).toNat * 9)).block, (ad399.add (((ji57)).toNat * 9)).off + 8, none⟩ = some (.slice A399_8 ((rd_T27 x7_2 (ji57)).f5).length c399_8)) (ds := []) #[false, false, false, false, false, false, false, false, false, false, false, false, false, false, false, false, false, false] (by kernel_rfl) rfl rfl ⟨(blk_cell BK398.out 0).trans rfl, (blk_cell BK398.out 1).trans rfl, (blk_cell BK398.out 2).trans rfl, (blk_cell BK398.out 3).trans rfl, (blk_cell BK398.out 4).trans rfl, (blk_cell BK398.out 5).trans rfl, (blk_cell BK397.out 0).trans rfl, (blk_cell BK397.out 1).trans rfl, (blk_cell BK397.out 2).trans rfl, (blk_cell BK397.out 3).trans rfl, (blk_cell BK397.out 4).trans rfl, (blk_cell BK397.out 5).trans rfl, (blk_cell BK397.out 6).trans rfl, (blk_cell BK397.out 7).trans rfl, (blk_cell BK397.out 8).trans rfl, hx399_0, hx399_1, hx399_2, hx399_3, hx399_4, hx399_5, hx399_6, hx399_7, hx399_8⟩ (fun hHeld => ?_); refine with_tabW wicketgatelaw26_SignalNests.tab19 wicketgatelaw26_SignalNests.bits19 (fun HT_ HW_ => ?_)
              generalize w75.drew = w76 at HO_7 HO_333008 HO389 BK332 BK397 BK398 HB HL399_8 HR399_8 hx399_0 hx399_1 hx399_2 hx399_3 hx399_4 hx399_5 hx399_6 hx399_7 hx399_8 hHeld ⊢
              refine pure_ (i := 0) (N := some 79) (v := ?_) (a' := ?_) #[true, false, false, false, false, false, false, false, false, false, false, false, false, false, false, false, false, false] rfl rfl (any_of HT_.out (by kernel_rfl)) (fun _ _ _ h => h) (Or.inl ⟨by rfl, ?_⟩) ?_ ?_
              rotate_left
              ·intro w'
               go_simp
               with_reducible rfl
              rotate_left
              ·simp only [Act.put, List.setIfInBounds_toArray, List.set_cons_zero, List.set_cons_succ, i64_w, i32_w]
               rfl
              refine pure_ (i := 1) (N := some 80) (v := ?_) (a' := ?_) #[true, true, false, false, false, false, false, false, false, false, false, false, false, false, false, false, false, false] rfl rfl (any_of HT_.out (by kernel_rfl)) (fun _ _ _ h => h) (Or.inl ⟨by rfl, ?_⟩) ?_ ?_
              rotate_left
              ·intro w'
               go_simp
               with_reducible rfl
              rotate_left
              ·simp only [Act.put, List.setIfInBounds_toArray, List.set_cons_zero, List.set_cons_succ, i64_w, i32_w]
               rfl
              refine pure_ (i := 2) (N := some 81) (v := ?_) (a' := ?_) #[true, true, true, false, false, false, false, false, false, false, false, false, false, false, false, false, false, false] rfl rfl (any_of HT_.out (by kernel_rfl)) (fun _ _ _ h => h) (Or.inl ⟨by rfl, ?_⟩) ?_ ?_
              rotate_left
              ·intro w'
               go_simp
               with_reducible rfl
              rotate_left
              ·simp only [Act.put, List.setIfInBounds_toArray, List.set_cons_zero, List.set_cons_succ, i64_w, i32_w]
               rfl
              refine pure_ (i := 4) (N := some 83) (v := ?_) (a' := ?_) #[true, true, true, false, true, false, false, false, false, false, false, false, false, false, false, false, false, false] rfl rfl (any_of HT_.out (by kernel_rfl)) (fun _ _ _ h => h) (Or.inl ⟨by rfl, ?_⟩) ?_ ?_
              rotate_left
              ·intro w'
               go_simp
               with_reducible rfl
              rotate_left
              ·simp only [Act.put, List.setIfInBounds_toArray, List.set_cons_zero, List.set_cons_succ, i64_w, i32_w]
               rfl
              refine take_ (i := 3) (N := some 82) (v := ?_) (a' := ?_) #[true, true, true, true, true, false, false, false, false, false, false, false, false, false, false, false, false, false] rfl rfl (take_ofW HT_.out HW_.out (by kernel_rfl)) (fun _ _ _ h => h) (Or.inl ⟨by rfl, ?_⟩) hHeld ?_ ?_
              rotate_left
              ·rintro w' ⟨s0, s1, s2, s3, s4, s5, s6, s7, s8, s9, s10, s11, s12, s13, s14, s15, s16, s17, s18, s19, s20, s21, s22, s23⟩
               go_simp
               with_reducible rfl
              rotate_left
              ·simp only [Act.put, List.setIfInBounds_toArray, List.set_cons_zero, List.set_cons_succ, i64_w, i32_w]
               rfl
              refine pure_ (i := 5) (N := some 84) (v := ?_) (a' := ?_) #[true, true, true, true, true, true, false, false, false, false, false, false, false, false, false, false, false, false] rfl rfl (any_of HT_.out (by kernel_rfl)) (fun _ _ _ h => h) (Or.inl ⟨by rfl, ?_⟩) ?_ ?_
              rotate_left
              ·intro w'
               go_simp
               with_reducible rfl
              rotate_left
              ·simp only [Act.put, List.setIfInBounds_toArray, List.set_cons_zero, List.set_cons_succ, i64_w, i32_w]
               rfl
              refine pure_ (i := 6) (N := some 85) (v := ?_) (a' := ?_) #[true, true, true, true, true, true, true, false, false, false, false, false, false, false, false, false, false, false] rfl rfl (any_of HT_.out (by kernel_rfl)) (fun _ _ _ h => h) (Or.inl ⟨by rfl, ?_⟩) ?_ ?_
              rotate_left
              ·intro w'
               go_simp
               with_reducible rfl
              rotate_left
              ·simp only [Act.put, List.setIfInBounds_toArray, List.set_cons_zero, List.set_cons_succ, i64_w, i32_w]
               rfl
              refine pure_ (i := 7) (N := some 86) (v := ?_) (a' := ?_) #[true, true, true, true, true, true, true, true, false, false, false, false, false, false, false, false, false, false] rfl rfl (any_of HT_.out (by kernel_rfl)) (fun _ _ _ h => h) (Or.inl ⟨by rfl, ?_⟩) ?_ ?_
              rotate_left
              ·intro w'
               go_simp
               with_reducible rfl
              rotate_left
              ·simp only [Act.put, List.setIfInBounds_toArray, List.set_cons_zero, List.set_cons_succ, i64_w, i32_w]
               rfl
              refine pure_ (i := 9) (N := some 88) (v := ?_) (a' := ?_) #[true, true, true, true, true, true, true, true, false, true, false, false, false, false, false, false, false, false] rfl rfl (any_of HT_.out (by kernel_rfl)) (fun _ _ _ h => h) (Or.inl ⟨by rfl, ?_⟩) ?_ ?_
              rotate_left
              ·intro w'
               go_simp
               with_reducible rfl
              rotate_left
              ·simp only [Act.put, List.setIfInBounds_toArray, List.set_cons_zero, List.set_cons_succ, i64_w, i32_w]
               rfl
              refine pure_ (i := 10) (N := some 89) (v := ?_) (a' := ?_) #[true, true, true, true, true, true, true, true, false, true, true, false, false, false, false, false, false, false] rfl rfl (any_of HT_.out (by kernel_rfl)) (fun _ _ _ h => h) (Or.inl ⟨by rfl, ?_⟩) ?_ ?_
              rotate_left
              ·intro w'
               go_simp
               with_reducible rfl
              rotate_left
              ·simp only [Act.put, List.setIfInBounds_toArray, List.set_cons_zero, List.set_cons_succ, i64_w, i32_w]
               rfl
              refine pure_ (i := 11) (N := some 90) (v := ?_) (a' := ?_) #[true, true, true, true, true, true, true, true, false, true, true, true, false, false, false, false, false, false] rfl rfl (any_of HT_.out (by kernel_rfl)) (fun _ _ _ h => h) (Or.inl ⟨by rfl, ?_⟩) ?_ ?_
              rotate_left
              ·intro w'
               go_simp
               with_reducible rfl
              rotate_left
              ·simp only [Act.put, List.setIfInBounds_toArray, List.set_cons_zero, List.set_cons_succ, i64_w, i32_w]
               rfl
              refine pure_ (i := 12) (N := some 91) (v := ?_) (a' := ?_) #[true, true, true, true, true, true, true, true, false, true, true, true, true, false, false, false, false, false] rfl rfl (any_of HT_.out (by kernel_rfl)) (fun _ _ _ h => h) (Or.inl ⟨by rfl, ?_⟩) ?_ ?_
              rotate_left
              ·intro w'
               go_simp
               with_reducible rfl
              rotate_left
              ·simp only [Act.put, List.setIfInBounds_toArray, List.set_cons_zero, List.set_cons_succ, i64_w, i32_w]
               rfl
              refine pure_ (i := 13) (N := some 92) (v := ?_) (a' := ?_) #[true, true, true, true, true, true, true, true, false, true, true, true, true, true, false, false, false, false] rfl rfl (any_of HT_.out (by kernel_rfl)) (fun _ _ _ h => h) (Or.inl ⟨by rfl, ?_⟩) ?_ ?_
              rotate_left
              ·intro w'
               go_simp
               with_reducible rfl
              rotate_left
              ·simp only [Act.put, List.setIfInBounds_toArray, List.set_cons_zero, List.set_cons_succ, i64_w, i32_w]
               rfl
              refine take_ (i := 8) (N := some 87) (v := ?_) (a' := ?_) #[true, true, true, true, true, true, true, true, true, true, true, true, true, true, false, false, false, false] rfl rfl (take_ofW HT_.out HW_.out (by kernel_rfl)) (fun _ _ _ h => h) (Or.inl ⟨by rfl, ?_⟩) hHeld ?_ ?_
              rotate_left
              ·rintro w' ⟨s0, s1, s2, s3, s4, s5, s6, s7, s8, s9, s10, s11, s12, s13, s14, s15, s16, s17, s18, s19, s20, s21, s22, s23⟩
               go_simp
               with_reducible rfl
              rotate_left
              ·simp only [Act.put, List.setIfInBounds_toArray, List.set_cons_zero, List.set_cons_succ, i64_w, i32_w]
               rfl
              refine take_ (i := 14) (N := some 93) (v := ?_) (a' := ?_) #[true, true, true, true, true, true, true, true, true, true, true, true, true, true, true, false, false, false] rfl rfl (take_ofW HT_.out HW_.out (by kernel_rfl)) (fun _ _ _ h => h) (Or.inl ⟨by rfl, ?_⟩) hHeld ?_ ?_
              rotate_left
              ·rintro w' ⟨s0, s1, s2, s3, s4, s5, s6, s7, s8, s9, s10, s11, s12, s13, s14, s15, s16, s17, s18, s19, s20, s21, s22, s23⟩
               go_simp
               with_reducible rfl
              rotate_left
              ·simp only [Act.put, List.setIfInBounds_toArray, List.set_cons_zero, List.set_cons_succ, i64_w, i32_w]
               rfl
              refine one_ (i := 15) (N := some 94) #[true, true, true, true, true, true, true, true, true, true, true, true, true, true, true, true, false, false] rfl rfl (one_of HT_.out (by kernel_rfl)) (by decide) (fun K hK => ?_)
              refine goes_ Try.func11 (by kernel_rfl) rfl #[.agg #[.int .i64 t379, .bool t380, .bool t381, .bool t382, .int .i64 t383, .int .i64 t384, .int .u32 t385, .int .u32 t386, .slice Ao72 t387.length co72], .agg #[.int .i64 ((rd_T27 x7_2 (ji57)).f0), .bool ((rd_T27 x7_2 (ji57)).f1), .bool ((rd_T27 x7_2 (ji57)).f2), .bool ((rd_T27 x7_2 (ji57)).f3), .int .i64 ((rd_T27 x7_2 (ji57)).f4.f0), .int .i64 ((rd_T27 x7_2 (ji57)).f4.f1), .int .u32 ((rd_T27 x7_2 (ji57)).f4.f2), .int .u32 ((rd_T27 x7_2 (ji57)).f4.f3), .slice A399_8 ((rd_T27 x7_2 (ji57)).f5).length c399_8]] (by rfl) rfl rfl (by (try simp only [List.map_toArray, List.map_cons, List.map_nil]); first | done | (simp only [hji57]; rfl) | rfl | (simp only [List.length_drop, List.length_take]; rfl)) ?_
              with_reducible refine (signal_Same.calls k2 t379 t380 t381 t382 t383 t384 t385 t386 _ _ t387 ((rd_T27 x7_2 (ji57)).f0) ((rd_T27 x7_2 (ji57)).f1) ((rd_T27 x7_2 (ji57)).f2) ((rd_T27 x7_2 (ji57)).f3) ((rd_T27 x7_2 (ji57)).f4.f0) ((rd_T27 x7_2 (ji57)).f4.f1) ((rd_T27 x7_2 (ji57)).f4.f2) ((rd_T27 x7_2 (ji57)).f4.f3) _ _ ((rd_T27 x7_2 (ji57)).f5) true _ ?side1 ?side2 ?side3 ?side4 A60.out).mono ?_
              (case side1 => repeat (first | exact (Kd.R_reads' HO389.out).2.2 | (with_reducible refine Kd.C_alloc ?_ _) | (with_reducible refine Kd.C_drewN ?_ _) | (with_reducible refine Kd.C_drew ?_)))
              (case side2 => exact (Kd.R_reads' HO389.out).2.1)
              (case side3 => repeat (first | exact (by repeat (first | (with_reducible exact HR399_8.out) | (with_reducible refine Kd.C_alloc ?_ _) | (with_reducible refine Kd.C_drewN ?_ _) | (with_reducible refine Kd.C_drew ?_) | exact HR399_8.out)) | (with_reducible refine Kd.C_alloc ?_ _) | (with_reducible refine Kd.C_drewN ?_ _) | (with_reducible refine Kd.C_drew ?_)))
              (case side4 => exact HC399_8.out)
              rintro e w77 ⟨rfl, hb⟩
              have HS15_ := (hb.cell (World.block_lt_of_cell? _ _ (hHeld.2.2.2.2.2.2.2.2.2.2.2.2.2.2.2.1))).trans (hHeld.2.2.2.2.2.2.2.2.2.2.2.2.2.2.2.1)
              have HS16_ := (hb.cell (World.block_lt_of_cell? _ _ (hHeld.2.2.2.2.2.2.2.2.2.2.2.2.2.2.2.2.1))).trans (hHeld.2.2.2.2.2.2.2.2.2.2.2.2.2.2.2.2.1)
              have HS17_ := (hb.cell (World.block_lt_of_cell? _ _ (hHeld.2.2.2.2.2.2.2.2.2.2.2.2.2.2.2.2.2.1))).trans (hHeld.2.2.2.2.2.2.2.2.2.2.2.2.2.2.2.2.2.1)
              have HS18_ := (hb.cell (World.block_lt_of_cell? _ _ (hHeld.2.2.2.2.2.2.2.2.2.2.2.2.2.2.2.2.2.2.1))).trans (hHeld.2.2.2.2.2.2.2.2.2.2.2.2.2.2.2.2.2.2.1)
              have HS19_ := (hb.cell (World.block_lt_of_cell? _ _ (hHeld.2.2.2.2.2.2.2.2.2.2.2.2.2.2.2.2.2.2.2.1))).trans (hHeld.2.2.2.2.2.2.2.2.2.2.2.2.2.2.2.2.2.2.2.1)
              have HS20_ := (hb.cell (World.block_lt_of_cell? _ _ (hHeld.2.2.2.2.2.2.2.2.2.2.2.2.2.2.2.2.2.2.2.2.1))).trans (hHeld.2.2.2.2.2.2.2.2.2.2.2.2.2.2.2.2.2.2.2.2.1)
              have HS21_ := (hb.cell (World.block_lt_of_cell? _ _ (hHeld.2.2.2.2.2.2.2.2.2.2.2.2.2.2.2.2.2.2.2.2.2.1))).trans (hHeld.2.2.2.2.2.2.2.2.2.2.2.2.2.2.2.2.2.2.2.2.2.1)
              have HS22_ := (hb.cell (World.block_lt_of_cell? _ _ (hHeld.2.2.2.2.2.2.2.2.2.2.2.2.2.2.2.2.2.2.2.2.2.2.1))).trans (hHeld.2.2.2.2.2.2.2.2.2.2.2.2.2.2.2.2.2.2.2.2.2.2.1)
              have HS23_ := (hb.cell (World.block_lt_of_cell? _ _ (hHeld.2.2.2.2.2.2.2.2.2.2.2.2.2.2.2.2.2.2.2.2.2.2.2))).trans (hHeld.2.2.2.2.2.2.2.2.2.2.2.2.2.2.2.2.2.2.2.2.2.2.2)
              refine ⟨_, rfl, ?_⟩
              have n0_ := Aside0.mk (Kd.S_below (by (with_reducible repeat (first | apply Kd.S_alloc | apply Kd.S_drewN | apply Kd.S_drew)); exact HO_7.out) hb)
              have n1_ := Aside0.mk (Kd.R_below (by (with_reducible repeat (first | apply Kd.R_alloc | apply Kd.R_drewN | apply Kd.R_drew)); exact HO_333008.out) hb)
              have n2_ := Aside0.mk (Kd.R_below (by (with_reducible repeat (first | apply Kd.R_alloc | apply Kd.R_drewN | apply Kd.R_drew)); exact HO389.out) hb)
              have n3_ := Aside0.mk (Kd.R_below (by (with_reducible repeat (first | apply Kd.R_alloc | apply Kd.R_drewN | apply Kd.R_drew)); exact HL399_8.out) hb)
              have n4_ := Aside0.mk (blk_below (g := gb332) (o := .cells #[.int .i64 x333000_2, .bool x333001_2, .bool x333002_2, .bool x333003_2, .int .i64 x333004_2, .int .i64 x333005_2, .int .u32 x333006_2, .int .u32 x333007_2, .slice Ao65 x333008_2.length co65] 27 (0, 0)) (by (with_reducible repeat (first | refine blk_drewN ?_ _ | refine blk_drew ?_ | refine blk_alloc ?_ _)); exact BK332.out) hb)
              have n5_ := Aside0.mk (blk_below (g := gb397) (o := .cells #[.int .i64 t379, .bool t380, .bool t381, .bool t382, .int .i64 t383, .int .i64 t384, .int .u32 t385, .int .u32 t386, .slice Ao72 t387.length co72] 27 (0, 0)) (by (with_reducible repeat (first | refine blk_drewN ?_ _ | refine blk_drew ?_ | refine blk_alloc ?_ _)); exact BK397.out) hb)
              have n6_ := Aside0.mk (blk_below (g := gb398) (o := .cells #[.bool t390, .bool t391, .int .i64 t392, .int .i64 t393, .int .u32 t394, .int .u32 t395] 33 (0, 0)) (by (with_reducible repeat (first | refine blk_drewN ?_ _ | refine blk_drew ?_ | refine blk_alloc ?_ _)); exact BK398.out) hb)
              have n7_ := Aside0.mk (Kd.C_below (by repeat (first | (with_reducible exact HR399_8.out) | (with_reducible refine Kd.C_alloc ?_ _) | (with_reducible refine Kd.C_drewN ?_ _) | (with_reducible refine Kd.C_drew ?_) | exact HR399_8.out)) hb)
              have n8_ := Aside0.mk (below_step (by repeat (first | (with_reducible first | exact HB.out | apply below_alloc | apply pw_below_drewN | apply below_drew1 | refine below_set ?_ GE332.out | refine below_set ?_ GE397.out | refine below_set ?_ GE398.out) | exact HB.out)) hb)
              clear HO_7
              clear HO_333008
              clear HO389
              clear HL399_8
              clear BK332
              clear BK397
              clear BK398
              clear HR399_8
              clear HB
              have HO_7 := n0_
              have HO_333008 := n1_
              have HO389 := n2_
              have HL399_8 := n3_
              have BK332 := n4_
              have BK397 := n5_
              have BK398 := n6_
              have HR399_8 := n7_
              have HB := n8_
              clear n0_ n1_ n2_ n3_ n4_ n5_ n6_ n7_ n8_
              (try clear hb)
              (try clear hb2)
              (try clear hk)
              (try clear hi)
              refine hK.out _ _ ⟨(blk_cell BK398.out 0).trans rfl, (blk_cell BK398.out 1).trans rfl, (blk_cell BK398.out 2).trans rfl, (blk_cell BK398.out 3).trans rfl, (blk_cell BK398.out 4).trans rfl, (blk_cell BK398.out 5).trans rfl, (blk_cell BK397.out 0).trans rfl, (blk_cell BK397.out 1).trans rfl, (blk_cell BK397.out 2).trans rfl, (blk_cell BK397.out 3).trans rfl, (blk_cell BK397.out 4).trans rfl, (blk_cell BK397.out 5).trans rfl, (blk_cell BK397.out 6).trans rfl, (blk_cell BK397.out 7).trans rfl, (blk_cell BK397.out 8).trans rfl, HS15_, HS16_, HS17_, HS18_, HS19_, HS20_, HS21_, HS22_, HS23_⟩ (fun hHeld => ?_)
              clear hK K
              refine norm_ (a' := ?_) ?_ ?_
              rotate_left
              ·show Act.put _ (some 94) _ = _
               simp only [Act.put, List.setIfInBounds_toArray, List.set_cons_zero, List.set_cons_succ, i64_w, i32_w]
               rfl
              refine pure_ (i := 16) (N := some 95) (v := ?_) (a' := ?_) #[true, true, true, true, true, true, true, true, true, true, true, true, true, true, true, true, true, false] rfl rfl (any_of HT_.out (by kernel_rfl)) (fun _ _ _ h => h) (Or.inl ⟨by rfl, ?_⟩) ?_ ?_
              rotate_left
              ·intro w'
               go_simp
               with_reducible rfl
              rotate_left
              ·simp only [Act.put, List.setIfInBounds_toArray, List.set_cons_zero, List.set_cons_succ, i64_w, i32_w]
               rfl
              refine pure_ (i := 17) (N := some 96) (v := ?_) (a' := ?_) #[true, true, true, true, true, true, true, true, true, true, true, true, true, true, true, true, true, true] rfl rfl (any_of HT_.out (by kernel_rfl)) (fun _ _ _ h => h) (Or.inl ⟨by rfl, ?_⟩) ?_ ?_
              rotate_left
              ·intro w'
               go_simp
               with_reducible rfl
              rotate_left
              ·simp only [Act.put, List.setIfInBounds_toArray, List.set_cons_zero, List.set_cons_succ, i64_w, i32_w]
               rfl
              refine done_ (done_of HT_.out (by kernel_rfl)) ?_
              try go_wp2
              have n0_ := Aside0.mk (Kd.S_drew HO_7.out)
              have n1_ := Aside0.mk (Kd.R_drew HO_333008.out)
              have n2_ := Aside0.mk (Kd.R_drew HO389.out)
              have n3_ := Aside0.mk (Kd.R_drew HL399_8.out)
              have n4_ := Aside0.mk (blk_drew BK332.out)
              have n5_ := Aside0.mk (blk_drew BK397.out)
              have n6_ := Aside0.mk (blk_drew BK398.out)
              have n7_ := Aside0.mk (Kd.C_drew HR399_8.out)
              have n8_ := Aside0.mk (below_drew1 HB.out)
              clear HO_7
              clear HO_333008
              clear HO389
              clear HL399_8
              clear BK332
              clear BK397
              clear BK398
              clear HR399_8
              clear HB
              have HO_7 := n0_
              have HO_333008 := n1_
              have HO389 := n2_
              have HL399_8 := n3_
              have BK332 := n4_
              have BK397 := n5_
              have BK398 := n6_
              have HR399_8 := n7_
              have HB := n8_
              clear n0_ n1_ n2_ n3_ n4_ n5_ n6_ n7_ n8_
              have q79 : ((ji57) : Int) ≤ ((x7_2.length : Int) : Int) := of_decide_eq_true (by first | (with_reducible assumption) | assumption)
              obtain ⟨i079, hi079, _, hsz79, _⟩ := info_parts info27
              have hcut79 := cut_to (P := Try.prog) 42 27 .i64 Try.underlying42 hi079 (some ad399) x7_2.length co63 (ji57) (of_decide_eq_true (by first | (with_reducible assumption) | assumption)) q79 (Kd.S_reads' HO_7.out).2.1
              have hr79 := Kd.S_take (m := ((ji57) : Int).toNat) HO_7.out (by omega)
              have hy79 : y401.length = ((ji57) : Int).toNat := (by rw [Ny401.out, List.length_take]; omega)
              rw [← Ny401.out] at hr79
              rw [← hy79] at hr79 hcut79
              clear hy79 hi079 hsz79 HO_7
              have HO403 := Aside0.mk hr79
              clear hr79
              replace q79 := eq_true q79
              refine start_ (n := 8) (S := fun w' => w'.cell? ⟨gb397, 0, none⟩ = some (.int .i64 t379) ∧ w'.cell? ⟨gb397, 1, none⟩ = some (.bool t380) ∧ w'.cell? ⟨gb397, 2, none⟩ = some (.bool t381) ∧ w'.cell? ⟨gb397, 3, none⟩ = some (.bool t382) ∧ w'.cell? ⟨gb397, 4, none⟩ = some (.int .i64 t383) ∧ w'.cell? ⟨gb397, 5, none⟩ = some (.int .i64 t384) ∧ w'.cell? ⟨gb397, 6, none⟩ = some (.int .u32 t385) ∧ w'.cell? ⟨gb397, 7, none⟩ = some (.int .u32 t386) ∧ w'.cell? ⟨gb397, 8, none⟩ = some (.slice Ao72 t387.length co72)) (ds := []) #[false, false, false, false, false, false, false, false] (by kernel_rfl) rfl rfl ⟨(blk_cell BK397.out 0).trans rfl, (blk_cell BK397.out 1).trans rfl, (blk_cell BK397.out 2).trans rfl, (blk_cell BK397.out 3).trans rfl, (blk_cell BK397.out 4).trans rfl, (blk_cell BK397.out 5).trans rfl, (blk_cell BK397.out 6).trans rfl, (blk_cell BK397.out 7).trans rfl, (blk_cell BK397.out 8).trans rfl⟩ (fun hHeld => ?_); refine with_tabW wicketgatelaw26_SignalNests.tab21 wicketgatelaw26_SignalNests.bits21 (fun HT_ HW_ => ?_)
              generalize w77.drew = w78 at HO_7 HO_333008 HO389 HL399_8 BK332 BK397 BK398 HR399_8 HB HO403 hHeld ⊢
              refine pure_ (i := 1) (N := some 98) (v := ?_) (a' := ?_) #[false, true, false, false, false, false, false, false] rfl rfl (any_of HT_.out (by kernel_rfl)) (fun _ _ _ h => h) (Or.inl ⟨by rfl, ?_⟩) ?_ ?_
              rotate_left
              ·intro w'
               go_simp
               with_reducible rfl
              rotate_left
              ·simp only [Act.put, List.setIfInBounds_toArray, List.set_cons_zero, List.set_cons_succ, i64_w, i32_w]
               rfl
              refine pure_ (i := 2) (N := some 99) (v := ?_) (a' := ?_) #[false, true, true, false, false, false, false, false] rfl rfl (any_of HT_.out (by kernel_rfl)) (fun _ _ _ h => h) (Or.inl ⟨by rfl, ?_⟩) ?_ ?_
              rotate_left
              ·intro w'
               go_simp
               with_reducible rfl
              rotate_left
              ·simp only [Act.put, List.setIfInBounds_toArray, List.set_cons_zero, List.set_cons_succ, i64_w, i32_w]
               rfl
              refine pure_ (i := 3) (N := some 100) (v := ?_) (a' := ?_) #[false, true, true, true, false, false, false, false] rfl rfl (any_of HT_.out (by kernel_rfl)) (fun _ _ _ h => h) (Or.inl ⟨by rfl, ?_⟩) ?_ ?_
              rotate_left
              ·intro w'
               go_simp
               with_reducible rfl
              rotate_left
              ·simp only [Act.put, List.setIfInBounds_toArray, List.set_cons_zero, List.set_cons_succ, i64_w, i32_w]
               rfl
              refine pure_ (i := 4) (N := some 101) (v := ?_) (a' := ?_) #[false, true, true, true, true, false, false, false] rfl rfl (any_of HT_.out (by kernel_rfl)) (fun _ _ _ h => h) (Or.inl ⟨by rfl, ?_⟩) ?_ ?_
              rotate_left
              ·intro w'
               go_simp
               with_reducible rfl
              rotate_left
              ·simp only [Act.put, List.setIfInBounds_toArray, List.set_cons_zero, List.set_cons_succ, i64_w, i32_w]
               rfl
              refine pure_ (i := 5) (N := some 102) (v := ?_) (a' := ?_) #[false, true, true, true, true, true, false, false] rfl rfl (any_of HT_.out (by kernel_rfl)) (fun _ _ _ h => h) (Or.inl ⟨by rfl, ?_⟩) ?_ ?_
              rotate_left
              ·intro w'
               go_simp
               with_reducible rfl
              rotate_left
              ·simp only [Act.put, List.setIfInBounds_toArray, List.set_cons_zero, List.set_cons_succ, i64_w, i32_w]
               rfl
              refine take_ (i := 0) (N := some 97) (v := ?_) (a' := ?_) #[true, true, true, true, true, true, false, false] rfl rfl (take_ofW HT_.out HW_.out (by kernel_rfl)) (fun _ _ _ h => h) (Or.inl ⟨by rfl, ?_⟩) hHeld ?_ ?_
              rotate_left
              ·rintro w' ⟨s0, s1, s2, s3, s4, s5, s6, s7, s8⟩
               go_simp
               with_reducible rfl
              rotate_left
              ·simp only [Act.put, List.setIfInBounds_toArray, List.set_cons_zero, List.set_cons_succ, i64_w, i32_w]
               rfl
              refine one_ (i := 6) (N := none) #[true, true, true, true, true, true, true, false] rfl rfl (one_of HT_.out (by kernel_rfl)) (by decide) (fun K hK => ?_)
              have hs80 : w78.cell? ⟨gb332, 0, none⟩ = some (.int .i64 x333000_2) := (blk_cell BK332.out 0).trans rfl
              have hfs80 := blk_frozen BK332.out 0
              have hns80_1 := NB397_332.out
              have hns80_2 := NB398_332.out
              have hms80_1 := NB332_397.out
              have hms80_2 := NB332_398.out
              have hs81 : w78.cell? ⟨gb332, 1, none⟩ = some (.bool x333001_2) := (blk_cell BK332.out 1).trans rfl
              have hfs81 := blk_frozen BK332.out 1
              have hns81_1 := NB397_332.out
              have hns81_2 := NB398_332.out
              have hms81_1 := NB332_397.out
              have hms81_2 := NB332_398.out
              have hs82 : w78.cell? ⟨gb332, 2, none⟩ = some (.bool x333002_2) := (blk_cell BK332.out 2).trans rfl
              have hfs82 := blk_frozen BK332.out 2
              have hns82_1 := NB397_332.out
              have hns82_2 := NB398_332.out
              have hms82_1 := NB332_397.out
              have hms82_2 := NB332_398.out
              have hs83 : w78.cell? ⟨gb332, 3, none⟩ = some (.bool x333003_2) := (blk_cell BK332.out 3).trans rfl
              have hfs83 := blk_frozen BK332.out 3
              have hns83_1 := NB397_332.out
              have hns83_2 := NB398_332.out
              have hms83_1 := NB332_397.out
              have hms83_2 := NB332_398.out
              have hs84 : w78.cell? ⟨gb332, 4, none⟩ = some (.int .i64 x333004_2) := (blk_cell BK332.out 4).trans rfl
              have hfs84 := blk_frozen BK332.out 4
              have hns84_1 := NB397_332.out
              have hns84_2 := NB398_332.out
              have hms84_1 := NB332_397.out
              have hms84_2 := NB332_398.out
              have hs85 : w78.cell? ⟨gb332, 5, none⟩ = some (.int .i64 x333005_2) := (blk_cell BK332.out 5).trans rfl
              have hfs85 := blk_frozen BK332.out 5
              have hns85_1 := NB397_332.out
              have hns85_2 := NB398_332.out
              have hms85_1 := NB332_397.out
              have hms85_2 := NB332_398.out
              have hs86 : w78.cell? ⟨gb332, 6, none⟩ = some (.int .u32 x333006_2) := (blk_cell BK332.out 6).trans rfl
              have hfs86 := blk_frozen BK332.out 6
              have hns86_1 := NB397_332.out
              have hns86_2 := NB398_332.out
              have hms86_1 := NB332_397.out
              have hms86_2 := NB332_398.out
              have hs87 : w78.cell? ⟨gb332, 7, none⟩ = some (.int .u32 x333007_2) := (blk_cell BK332.out 7).trans rfl
              have hfs87 := blk_frozen BK332.out 7
              have hns87_1 := NB397_332.out
              have hns87_2 := NB398_332.out
              have hms87_1 := NB332_397.out
              have hms87_2 := NB332_398.out
              have hs88 : w78.cell? ⟨gb332, 8, none⟩ = some (.slice Ao65 x333008_2.length co65) := (blk_cell BK332.out 8).trans rfl
              have hfs88 := blk_frozen BK332.out 8
              have hns88_1 := NB397_332.out
              have hns88_2 := NB398_332.out
              have hms88_1 := NB332_397.out
              have hms88_2 := NB332_398.out
              refine skip_ (w1 := ?_) (by rfl) rfl ?_ ?_
              rotate_left
              ·go_simp
               rfl
              refine hK.out _ _ ⟨((cell_far (p := ⟨gb332, _, none⟩) NB397_332.out _).trans (((cell_far (p := ⟨gb332, _, none⟩) NB397_332.out _).trans (((cell_far (p := ⟨gb332, _, none⟩) NB397_332.out _).trans (((cell_far (p := ⟨gb332, _, none⟩) NB397_332.out _).trans (((cell_far (p := ⟨gb332, _, none⟩) NB397_332.out _).trans (((cell_far (p := ⟨gb332, _, none⟩) NB397_332.out _).trans (((cell_far (p := ⟨gb332, _, none⟩) NB397_332.out _).trans (((cell_far (p := ⟨gb332, _, none⟩) NB397_332.out _).trans (((cell_far (p := ⟨gb332, _, none⟩) NB397_332.out _).trans (hHeld.1)))))))))))))))))), ((cell_far (p := ⟨gb332, _, none⟩) NB397_332.out _).trans (((cell_far (p := ⟨gb332, _, none⟩) NB397_332.out _).trans (((cell_far (p := ⟨gb332, _, none⟩) NB397_332.out _).trans (((cell_far (p := ⟨gb332, _, none⟩) NB397_332.out _).trans (((cell_far (p := ⟨gb332, _, none⟩) NB397_332.out _).trans (((cell_far (p := ⟨gb332, _, none⟩) NB397_332.out _).trans (((cell_far (p := ⟨gb332, _, none⟩) NB397_332.out _).trans (((cell_far (p := ⟨gb332, _, none⟩) NB397_332.out _).trans (((cell_far (p := ⟨gb332, _, none⟩) NB397_332.out _).trans (hHeld.2.1)))))))))))))))))), ((cell_far (p := ⟨gb332, _, none⟩) NB397_332.out _).trans (((cell_far (p := ⟨gb332, _, none⟩) NB397_332.out _).trans (((cell_far (p := ⟨gb332, _, none⟩) NB397_332.out _).trans (((cell_far (p := ⟨gb332, _, none⟩) NB397_332.out _).trans (((cell_far (p := ⟨gb332, _, none⟩) NB397_332.out _).trans (((cell_far (p := ⟨gb332, _, none⟩) NB397_332.out _).trans (((cell_far (p := ⟨gb332, _, none⟩) NB397_332.out _).trans (((cell_far (p := ⟨gb332, _, none⟩) NB397_332.out _).trans (((cell_far (p := ⟨gb332, _, none⟩) NB397_332.out _).trans (hHeld.2.2.1)))))))))))))))))), ((cell_far (p := ⟨gb332, _, none⟩) NB397_332.out _).trans (((cell_far (p := ⟨gb332, _, none⟩) NB397_332.out _).trans (((cell_far (p := ⟨gb332, _, none⟩) NB397_332.out _).trans (((cell_far (p := ⟨gb332, _, none⟩) NB397_332.out _).trans (((cell_far (p := ⟨gb332, _, none⟩) NB397_332.out _).trans (((cell_far (p := ⟨gb332, _, none⟩) NB397_332.out _).trans (((cell_far (p := ⟨gb332, _, none⟩) NB397_332.out _).trans (((cell_far (p := ⟨gb332, _, none⟩) NB397_332.out _).trans (((cell_far (p := ⟨gb332, _, none⟩) NB397_332.out _).trans (hHeld.2.2.2.1)))))))))))))))))), ((cell_far (p := ⟨gb332, _, none⟩) NB397_332.out _).trans (((cell_far (p := ⟨gb332, _, none⟩) NB397_332.out _).trans (((cell_far (p := ⟨gb332, _, none⟩) NB397_332.out _).trans (((cell_far (p := ⟨gb332, _, none⟩) NB397_332.out _).trans (((cell_far (p := ⟨gb332, _, none⟩) NB397_332.out _).trans (((cell_far (p := ⟨gb332, _, none⟩) NB397_332.out _).trans (((cell_far (p := ⟨gb332, _, none⟩) NB397_332.out _).trans (((cell_far (p := ⟨gb332, _, none⟩) NB397_332.out _).trans (((cell_far (p := ⟨gb332, _, none⟩) NB397_332.out _).trans (hHeld.2.2.2.2.1)))))))))))))))))), ((cell_far (p := ⟨gb332, _, none⟩) NB397_332.out _).trans (((cell_far (p := ⟨gb332, _, none⟩) NB397_332.out _).trans (((cell_far (p := ⟨gb332, _, none⟩) NB397_332.out _).trans (((cell_far (p := ⟨gb332, _, none⟩) NB397_332.out _).trans (((cell_far (p := ⟨gb332, _, none⟩) NB397_332.out _).trans (((cell_far (p := ⟨gb332, _, none⟩) NB397_332.out _).trans (((cell_far (p := ⟨gb332, _, none⟩) NB397_332.out _).trans (((cell_far (p := ⟨gb332, _, none⟩) NB397_332.out _).trans (((cell_far (p := ⟨gb332, _, none⟩) NB397_332.out _).trans (hHeld.2.2.2.2.2.1)))))))))))))))))), ((cell_far (p := ⟨gb332, _, none⟩) NB397_332.out _).trans (((cell_far (p := ⟨gb332, _, none⟩) NB397_332.out _).trans (((cell_far (p := ⟨gb332, _, none⟩) NB397_332.out _).trans (((cell_far (p := ⟨gb332, _, none⟩) NB397_332.out _).trans (((cell_far (p := ⟨gb332, _, none⟩) NB397_332.out _).trans (((cell_far (p := ⟨gb332, _, none⟩) NB397_332.out _).trans (((cell_far (p := ⟨gb332, _, none⟩) NB397_332.out _).trans (((cell_far (p := ⟨gb332, _, none⟩) NB397_332.out _).trans (((cell_far (p := ⟨gb332, _, none⟩) NB397_332.out _).trans (hHeld.2.2.2.2.2.2.1)))))))))))))))))), ((cell_far (p := ⟨gb332, _, none⟩) NB397_332.out _).trans (((cell_far (p := ⟨gb332, _, none⟩) NB397_332.out _).trans (((cell_far (p := ⟨gb332, _, none⟩) NB397_332.out _).trans (((cell_far (p := ⟨gb332, _, none⟩) NB397_332.out _).trans (((cell_far (p := ⟨gb332, _, none⟩) NB397_332.out _).trans (((cell_far (p := ⟨gb332, _, none⟩) NB397_332.out _).trans (((cell_far (p := ⟨gb332, _, none⟩) NB397_332.out _).trans (((cell_far (p := ⟨gb332, _, none⟩) NB397_332.out _).trans (((cell_far (p := ⟨gb332, _, none⟩) NB397_332.out _).trans (hHeld.2.2.2.2.2.2.2.1)))))))))))))))))), ((cell_far (p := ⟨gb332, _, none⟩) NB397_332.out _).trans (((cell_far (p := ⟨gb332, _, none⟩) NB397_332.out _).trans (((cell_far (p := ⟨gb332, _, none⟩) NB397_332.out _).trans (((cell_far (p := ⟨gb332, _, none⟩) NB397_332.out _).trans (((cell_far (p := ⟨gb332, _, none⟩) NB397_332.out _).trans (((cell_far (p := ⟨gb332, _, none⟩) NB397_332.out _).trans (((cell_far (p := ⟨gb332, _, none⟩) NB397_332.out _).trans (((cell_far (p := ⟨gb332, _, none⟩) NB397_332.out _).trans (((cell_far (p := ⟨gb332, _, none⟩) NB397_332.out _).trans (hHeld.2.2.2.2.2.2.2.2))))))))))))))))))⟩ (fun hHeld => ?_)
              clear hK K
              refine pure_ (i := 7) (N := some 7) (v := ?_) (a' := ?_) #[true, true, true, true, true, true, true, true] rfl rfl (any_of HT_.out (by kernel_rfl)) (fun _ _ _ h => h) (Or.inl ⟨by rfl, ?_⟩) ?_ ?_
              rotate_left
              ·intro w'
               go_simp
               with_reducible rfl
              rotate_left
              ·simp only [Act.put, List.setIfInBounds_toArray, List.set_cons_zero, List.set_cons_succ, i64_w, i32_w]
               rfl
              refine done_ (done_of HT_.out (by kernel_rfl)) ?_
              try go_wp2
              go_roundg k2
              case measure => have := HJ6.out; have := HK2.out; omega
              case rel => exact ⟨(y401), (t379), (t380), (t381), (t382), (t383), (t384), (t385), (t386), (t387), (.slice Ao72 t387.length co72), H', ⟨by have := HJ6.out; have := HK2.out; omega⟩, ⟨by (with_reducible repeat (first | apply Kd.S_alloc | apply Kd.S_drewN | apply Kd.S_drew)); exact Kd.S_mono (Kd.S_far (p := ⟨gb332, 8, none⟩) (Kd.S_far (p := ⟨gb332, 7, none⟩) (Kd.S_far (p := ⟨gb332, 6, none⟩) (Kd.S_far (p := ⟨gb332, 5, none⟩) (Kd.S_far (p := ⟨gb332, 4, none⟩) (Kd.S_far (p := ⟨gb332, 3, none⟩) (Kd.S_far (p := ⟨gb332, 2, none⟩) (Kd.S_far (p := ⟨gb332, 1, none⟩) (Kd.S_far (p := ⟨gb332, 0, none⟩) (Kd.S_mono HO403.out (fun k_ hk => (⟨hk, hk.2.2.1⟩ : _ ∧ k_ ≠ gb332))) (fun _ hk => hk.2) (.int .i64 t379)) (fun _ hk => hk.2) (.bool t380)) (fun _ hk => hk.2) (.bool t381)) (fun _ hk => hk.2) (.bool t382)) (fun _ hk => hk.2) (.int .i64 t383)) (fun _ hk => hk.2) (.int .i64 t384)) (fun _ hk => hk.2) (.int .u32 t385)) (fun _ hk => hk.2) (.int .u32 t386)) (fun _ hk => hk.2) (.slice Ao72 t387.length co72)) (fun _ hk => ⟨hk.1.2.1, hk.1.2.2.1⟩)⟩, ⟨by (with_reducible repeat (first | apply Kd.R_alloc | apply Kd.R_drewN | apply Kd.R_drew)); exact Kd.R_mono (Kd.R_far (p := ⟨gb332, 8, none⟩) (Kd.R_far (p := ⟨gb332, 7, none⟩) (Kd.R_far (p := ⟨gb332, 6, none⟩) (Kd.R_far (p := ⟨gb332, 5, none⟩) (Kd.R_far (p := ⟨gb332, 4, none⟩) (Kd.R_far (p := ⟨gb332, 3, none⟩) (Kd.R_far (p := ⟨gb332, 2, none⟩) (Kd.R_far (p := ⟨gb332, 1, none⟩) (Kd.R_far (p := ⟨gb332, 0, none⟩) (Kd.R_types HO389.out BK332.out (by decide)) (fun _ hk => hk.2) (.int .i64 t379)) (fun _ hk => hk.2) (.bool t380)) (fun _ hk => hk.2) (.bool t381)) (fun _ hk => hk.2) (.bool t382)) (fun _ hk => hk.2) (.int .i64 t383)) (fun _ hk => hk.2) (.int .i64 t384)) (fun _ hk => hk.2) (.int .u32 t385)) (fun _ hk => hk.2) (.int .u32 t386)) (fun _ hk => hk.2) (.slice Ao72 t387.length co72)) (fun _ hk => trivial)⟩, ⟨by (with_reducible repeat (first | refine blk_drewN ?_ _ | refine blk_drew ?_ | refine blk_alloc ?_ _)); refine blk_put (cs := #[.int .i64 t379, .bool t380, .bool t381, .bool t382, .int .i64 t383, .int .i64 t384, .int .u32 t385, .int .u32 t386, .slice Ao65 x333008_2.length co65]) ?_ 8 _ rfl; (with_reducible repeat (first | refine blk_drewN ?_ _ | refine blk_drew ?_ | refine blk_alloc ?_ _)); refine blk_put (cs := #[.int .i64 t379, .bool t380, .bool t381, .bool t382, .int .i64 t383, .int .i64 t384, .int .u32 t385, .int .u32 x333007_2, .slice Ao65 x333008_2.length co65]) ?_ 7 _ rfl; (with_reducible repeat (first | refine blk_drewN ?_ _ | refine blk_drew ?_ | refine blk_alloc ?_ _)); refine blk_put (cs := #[.int .i64 t379, .bool t380, .bool t381, .bool t382, .int .i64 t383, .int .i64 t384, .int .u32 x333006_2, .int .u32 x333007_2, .slice Ao65 x333008_2.length co65]) ?_ 6 _ rfl; (with_reducible repeat (first | refine blk_drewN ?_ _ | refine blk_drew ?_ | refine blk_alloc ?_ _)); refine blk_put (cs := #[.int .i64 t379, .bool t380, .bool t381, .bool t382, .int .i64 t383, .int .i64 x333005_2, .int .u32 x333006_2, .int .u32 x333007_2, .slice Ao65 x333008_2.length co65]) ?_ 5 _ rfl; (with_reducible repeat (first | refine blk_drewN ?_ _ | refine blk_drew ?_ | refine blk_alloc ?_ _)); refine blk_put (cs := #[.int .i64 t379, .bool t380, .bool t381, .bool t382, .int .i64 x333004_2, .int .i64 x333005_2, .int .u32 x333006_2, .int .u32 x333007_2, .slice Ao65 x333008_2.length co65]) ?_ 4 _ rfl; (with_reducible repeat (first | refine blk_drewN ?_ _ | refine blk_drew ?_ | refine blk_alloc ?_ _)); refine blk_put (cs := #[.int .i64 t379, .bool t380, .bool t381, .bool x333003_2, .int .i64 x333004_2, .int .i64 x333005_2, .int .u32 x333006_2, .int .u32 x333007_2, .slice Ao65 x333008_2.length co65]) ?_ 3 _ rfl; (with_reducible repeat (first | refine blk_drewN ?_ _ | refine blk_drew ?_ | refine blk_alloc ?_ _)); refine blk_put (cs := #[.int .i64 t379, .bool t380, .bool x333002_2, .bool x333003_2, .int .i64 x333004_2, .int .i64 x333005_2, .int .u32 x333006_2, .int .u32 x333007_2, .slice Ao65 x333008_2.length co65]) ?_ 2 _ rfl; (with_reducible repeat (first | refine blk_drewN ?_ _ | refine blk_drew ?_ | refine blk_alloc ?_ _)); refine blk_put (cs := #[.int .i64 t379, .bool x333001_2, .bool x333002_2, .bool x333003_2, .int .i64 x333004_2, .int .i64 x333005_2, .int .u32 x333006_2, .int .u32 x333007_2, .slice Ao65 x333008_2.length co65]) ?_ 1 _ rfl; (with_reducible repeat (first | refine blk_drewN ?_ _ | refine blk_drew ?_ | refine blk_alloc ?_ _)); refine blk_put (cs := #[.int .i64 x333000_2, .bool x333001_2, .bool x333002_2, .bool x333003_2, .int .i64 x333004_2, .int .i64 x333005_2, .int .u32 x333006_2, .int .u32 x333007_2, .slice Ao65 x333008_2.length co65]) ?_ 0 _ rfl; (with_reducible repeat (first | refine blk_drewN ?_ _ | refine blk_drew ?_ | refine blk_alloc ?_ _)); exact BK332.out⟩, ⟨by repeat (first | (with_reducible first | exact HB.out | apply below_alloc | apply pw_below_drewN | apply below_drew1 | refine below_set ?_ GE332.out | refine below_set ?_ GE397.out | refine below_set ?_ GE398.out) | exact HB.out)⟩⟩
             ·rw [if_neg c62] at H
              exact absurd H (by simp)
            ·replace c61 := Bool.eq_false_iff.mpr c61
             subst c61
             have H1 : (some false) = some r := by rw [if_neg (show ¬ (false = true) by decide)] at H; exact H
             clear H
             have H := H1
             clear H1
             exact absurd ((Option.some.inj H).trans HRr.out) (by simp)
           ·rw [if_neg c59] at H
            exact absurd H (by simp)
          ·rw [if_neg c58] at H
           exact absurd H (by simp)
        ·rw [if_neg c55] at H
         have c55b0 : (t396 == 0) = false := beq_eq_false_iff_ne.mpr c55
         have c55b1 : (t396 != 0) = true := bne_iff_ne.mpr c55
         exact absurd ((Option.some.inj H).trans HRr.out) (by simp)
       ·rw [if_neg c53] at H
        have c53b0 : decide (0 < (x7_2.length : Int)) = false := decide_eq_false c53
        have c53b1 : decide (0 < x7_2.length) = false := decide_eq_false (by omega)
        clear c53
        replace H := Option.bind_eq_some_iff.mp H
        obtain ⟨⟨t361, t362, t363, t364, t365, t366, t367, t368, t369, t372, t373, t374, t375, t376, t377, t378⟩, A890, H⟩ := H
        replace H : (some (t378 == 4)) = some r := H
        have A89 := Aside0.mk A890
        clear A890
        obtain rfl := Option.some.inj H
        obtain ⟨Ao90, co90, eo90⟩ := Kd.S_slice HO_7.out
        subst eo90
        have hcz91_0 : wr.cell? ⟨gb332, 0, none⟩ = some (.int .i64 x333000_2) := (blk_cell BK332.out 0).trans rfl
        have hcz91_1 : wr.cell? ⟨gb332, 1, none⟩ = some (.bool x333001_2) := (blk_cell BK332.out 1).trans rfl
        have hcz91_2 : wr.cell? ⟨gb332, 2, none⟩ = some (.bool x333002_2) := (blk_cell BK332.out 2).trans rfl
        have hcz91_3 : wr.cell? ⟨gb332, 3, none⟩ = some (.bool x333003_2) := (blk_cell BK332.out 3).trans rfl
        have hcz91_4 : wr.cell? ⟨gb332, 4, none⟩ = some (.int .i64 x333004_2) := (blk_cell BK332.out 4).trans rfl
        have hcz91_5 : wr.cell? ⟨gb332, 5, none⟩ = some (.int .i64 x333005_2) := (blk_cell BK332.out 5).trans rfl
        have hcz91_6 : wr.cell? ⟨gb332, 6, none⟩ = some (.int .u32 x333006_2) := (blk_cell BK332.out 6).trans rfl
        have hcz91_7 : wr.cell? ⟨gb332, 7, none⟩ = some (.int .u32 x333007_2) := (blk_cell BK332.out 7).trans rfl
        have hcz91_8 : wr.cell? ⟨gb332, 8, none⟩ = some (u333008) := (blk_cell BK332.out 8).trans rfl
        have hfz91_0 := blk_frozen BK332.out 0
        have hfz91_1 := blk_frozen BK332.out 1
        have hfz91_2 := blk_frozen BK332.out 2
        have hfz91_3 := blk_frozen BK332.out 3
        have hfz91_4 := blk_frozen BK332.out 4
        have hfz91_5 := blk_frozen BK332.out 5
        have hfz91_6 := blk_frozen BK332.out 6
        have hfz91_7 := blk_frozen BK332.out 7
        have hfz91_8 := blk_frozen BK332.out 8
        obtain ⟨Ao92, co92, eo92⟩ := Kd.R_slice HO_333008.out
        subst eo92
        go_wp2_with (first | ((with_reducible refine gate_callee (f := 14) rfl ?_); refine goesL_ (some 105) rfl rfl Try.func14 (by kernel_rfl) rfl #[.agg #[.int .i64 x333000_2, .bool x333001_2, .bool x333002_2, .bool x333003_2, .int .i64 x333004_2, .int .i64 x333005_2, .int .u32 x333006_2, .int .u32 x333007_2, .slice Ao92 x333008_2.length co92]] rfl (by (try simp only [List.map_toArray, List.map_cons, List.map_nil]); first | done | rfl | (simp only [List.length_drop, List.length_take]; rfl)) ?_; (with_reducible refine (signal_Return.calls x333000_2 x333001_2 x333002_2 x333003_2 x333004_2 x333005_2 x333006_2 x333007_2 _ _ x333008_2 t361 t362 t363 t364 t365 t366 t367 t368 t369 t372 t373 t374 t375 t376 t377 t378 _ ?side1 ?side2 A89.out).mono ?_); (case side1 => repeat (first | exact (Kd.R_reads' HO_333008.out).2.2 | (with_reducible refine Kd.C_alloc ?_ _) | (with_reducible refine Kd.C_drewN ?_ _) | (with_reducible refine Kd.C_drew ?_))); (case side2 => exact (Kd.R_reads' HO_333008.out).2.1); rintro e w93 ⟨v370, rfl, ho0, hb⟩; refine ⟨_, rfl, ?_⟩; have n0_ := Aside0.mk (Kd.S_elder' (by (with_reducible repeat (first | apply Kd.S_alloc | apply Kd.S_drewN | apply Kd.S_drew)); exact HO_7.out) (Kd.R_base ho0) hb); have n1_ := Aside0.mk (Kd.R_elder' (by (with_reducible repeat (first | apply Kd.R_alloc | apply Kd.R_drewN | apply Kd.R_drew)); exact HO_333008.out) (Kd.R_base ho0) hb); have n2_ := Aside0.mk (Kd.R_lower (Kd.R_new' ho0 (Kd.R_lt (by (with_reducible repeat (first | apply Kd.R_alloc | apply Kd.R_drewN | apply Kd.R_drew)); exact HO_333008.out))) (below_size (by repeat (first | (with_reducible first | exact HB.out | apply below_alloc | apply pw_below_drewN | apply below_drew1 | refine below_set ?_ GE332.out) | exact HB.out)))); have n3_ := Aside0.mk (blk_below (g := gb332) (o := .cells #[.int .i64 x333000_2, .bool x333001_2, .bool x333002_2, .bool x333003_2, .int .i64 x333004_2, .int .i64 x333005_2, .int .u32 x333006_2, .int .u32 x333007_2, .slice Ao92 x333008_2.length co92] 27 (0, 0)) (by (with_reducible repeat (first | refine blk_drewN ?_ _ | refine blk_drew ?_ | refine blk_alloc ?_ _)); exact BK332.out) hb); have n4_ := Aside0.mk (below_step (by repeat (first | (with_reducible first | exact HB.out | apply below_alloc | apply pw_below_drewN | apply below_drew1 | refine below_set ?_ GE332.out) | exact HB.out)) hb); clear HO_7; clear HO_333008; clear BK332; clear HB; have HO_7 := n0_; have HO_333008 := n1_; have HO371 := n2_; have BK332 := n3_; have HB := n4_; clear n0_ n1_ n2_ n3_ n4_; (try clear hb); (try clear hb2); (try clear hk); (try clear hi); (try clear ho0)))
        go_ret
        exact ⟨by first | rfl | (simp [errW_none, errW_some] <;> rfl) | (simp [*, errW_none, errW_some] <;> rfl), by repeat (first | (with_reducible first | exact HB.out | apply below_alloc | apply pw_below_drewN | apply below_drew1 | refine below_set ?_ GE332.out) | exact HB.out)⟩
  ·rw [if_neg c6] at H
   have c6b0 : (t331 == 0) = false := beq_eq_false_iff_ne.mpr c6
   have c6b1 : (t331 != 0) = true := bne_iff_ne.mpr c6
   exact absurd ((Option.some.inj H).trans HRr.out) (by simp)
 ·replace c4 := Bool.eq_false_iff.mpr c4
  subst c4
  have H1 : (some false) = some r := by rw [if_neg (show ¬ (false = true) by decide)] at H; exact H
  clear H
  have H := H1
  clear H1
  exact absurd ((Option.some.inj H).trans HRr.out) (by simp)

end Go.Proofs.Ytbpgpbbpeppjmaa.PC
