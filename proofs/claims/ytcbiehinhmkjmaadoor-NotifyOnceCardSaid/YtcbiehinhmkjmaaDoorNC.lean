import Derived.Test.YtcbiehinhmkjmaaDoorNA
import Derived.Test.YtcbiehinhmkjmaaDoorPBx1
import Derived.Test.YtcbiehinhmkjmaaDoorPBx2
import Derived.Carry
import Derived.Lib.Hide
import Derived.StillTailTactics
namespace Go.Proofs.YtcbiehinhmkjmaaDoor.NB
open Go.RowKit Go.Proofs.YtcbiehinhmkjmaaDoorW.PrintWords Go.Proofs.YtcbiehinhmkjmaaDoorW.PrintLast Go.Proofs.YtcbiehinhmkjmaaDoorW.PrintMore
open Go.Proofs.YtcbiehinhmkjmaaDoor.PB
set_option linter.unusedVariables false
set_option linter.unusedSimpArgs false
abbrev NCb0 : Array Bool := #[false, false, false, false, false, false, false, false, false, false, false, false, false, false, false, false, false, false, false, false, false, false, false, false, false, false, false, false, false, false, false, false, false, false, false, false, false, false]
abbrev NCb1 : Array Bool := #[true, false, false, false, false, false, false, false, false, false, false, false, false, false, false, false, false, false, false, false, false, false, false, false, false, false, false, false, false, false, false, false, false, false, false, false, false, false]
abbrev NCb2 : Array Bool := #[true, true, false, false, false, false, false, false, false, false, false, false, false, false, false, false, false, false, false, false, false, false, false, false, false, false, false, false, false, false, false, false, false, false, false, false, false, false]
abbrev NCb3 : Array Bool := #[true, true, true, false, false, false, false, false, false, false, false, false, false, false, false, false, false, false, false, false, false, false, false, false, false, false, false, false, false, false, false, false, false, false, false, false, false, false]
abbrev NCb4 : Array Bool := #[true, true, true, true, false, false, false, false, false, false, false, false, false, false, false, false, false, false, false, false, false, false, false, false, false, false, false, false, false, false, false, false, false, false, false, false, false, false]
abbrev NCb5 : Array Bool := #[true, true, true, true, true, false, false, false, false, false, false, false, false, false, false, false, false, false, false, false, false, false, false, false, false, false, false, false, false, false, false, false, false, false, false, false, false, false]
abbrev NCb6 : Array Bool := #[true, true, true, true, true, true, true, false, false, false, false, false, false, false, false, false, false, false, false, false, false, false, false, false, false, false, false, false, false, false, false, false, false, false, false, false, false, false]
abbrev NCb7 : Array Bool := #[true, true, true, true, true, true, true, true, false, false, false, false, false, false, false, false, false, false, false, false, false, false, false, false, false, false, false, false, false, false, false, false, false, false, false, false, false, false]
abbrev NCb8 : Array Bool := #[true, true, true, true, true, true, true, true, true, false, false, false, false, false, false, false, false, false, false, false, false, false, false, false, false, false, false, false, false, false, false, false, false, false, false, false, false, false]
abbrev NCb9 : Array Bool := #[true, true, true, true, true, true, true, true, true, true, false, false, false, false, false, false, false, false, false, false, false, false, false, false, false, false, false, false, false, false, false, false, false, false, false, false, false, false]
abbrev NCb10 : Array Bool := #[true, true, true, true, true, true, true, true, true, true, true, false, false, false, false, false, false, false, false, false, false, false, false, false, false, false, false, false, false, false, false, false, false, false, false, false, false, false]
abbrev NCb11 : Array Bool := #[true, true, true, true, true, true, true, true, true, true, true, true, false, false, false, false, false, false, false, false, false, false, false, false, false, false, false, false, false, false, false, false, false, false, false, false, false, false]
abbrev NCb12 : Array Bool := #[true, true, true, true, true, true, true, true, true, true, true, true, true, false, false, false, false, false, false, false, false, false, false, false, false, false, false, false, false, false, false, false, false, false, false, false, false, false]
abbrev NCb13 : Array Bool := #[true, true, true, true, true, true, true, true, true, true, true, true, true, true, false, false, false, false, false, false, false, false, false, false, false, false, false, false, false, false, false, false, false, false, false, false, false, false]
abbrev NCb14 : Array Bool := #[true, true, true, true, true, true, true, true, true, true, true, true, true, true, true, false, false, false, false, false, false, false, false, false, false, false, false, false, false, false, false, false, false, false, false, false, false, false]
abbrev NCb15 : Array Bool := #[true, true, true, true, true, true, true, true, true, true, true, true, true, true, true, true, false, false, false, false, false, false, false, false, false, false, false, false, false, false, false, false, false, false, false, false, false, false]
abbrev NCb16 : Array Bool := #[true, true, true, true, true, true, true, true, true, true, true, true, true, true, true, true, true, false, false, false, false, false, false, false, false, false, false, false, false, false, false, false, false, false, false, false, false, false]
abbrev NCb17 : Array Bool := #[true, true, true, true, true, true, true, true, true, true, true, true, true, true, true, true, true, true, false, false, false, false, false, false, false, false, false, false, false, false, false, false, false, false, false, false, false, false]
abbrev NCb18 : Array Bool := #[true, true, true, true, true, true, true, true, true, true, true, true, true, true, true, true, true, true, true, false, false, false, false, false, false, false, false, false, false, false, false, false, false, false, false, false, false, false]
abbrev NCb19 : Array Bool := #[true, true, true, true, true, true, true, true, true, true, true, true, true, true, true, true, true, true, true, true, false, false, false, false, false, false, false, false, false, false, false, false, false, false, false, false, false, false]
abbrev NCb20 : Array Bool := #[true, true, true, true, true, true, true, true, true, true, true, true, true, true, true, true, true, true, true, true, true, false, false, false, false, false, false, false, false, false, false, false, false, false, false, false, false, false]
abbrev NCb21 : Array Bool := #[true, true, true, true, true, true, true, true, true, true, true, true, true, true, true, true, true, true, true, true, true, true, false, false, false, false, false, false, false, false, false, false, false, false, false, false, false, false]
abbrev NCb22 : Array Bool := #[true, true, true, true, true, true, true, true, true, true, true, true, true, true, true, true, true, true, true, true, true, true, true, false, false, false, false, false, false, false, false, false, false, false, false, false, false, false]
abbrev NCb23 : Array Bool := #[true, true, true, true, true, true, true, true, true, true, true, true, true, true, true, true, true, true, true, true, true, true, true, true, false, false, false, false, false, false, false, false, false, false, false, false, false, false]
abbrev NCb24 : Array Bool := #[true, true, true, true, true, true, true, true, true, true, true, true, true, true, true, true, true, true, true, true, true, true, true, true, true, false, false, false, false, false, false, false, false, false, false, false, false, false]
abbrev NCb25 : Array Bool := #[true, true, true, true, true, true, true, true, true, true, true, true, true, true, true, true, true, true, true, true, true, true, true, true, true, true, false, false, false, false, false, false, false, false, false, false, false, false]
abbrev NCb26 : Array Bool := #[true, true, true, true, true, true, true, true, true, true, true, true, true, true, true, true, true, true, true, true, true, true, true, true, true, true, true, false, false, false, false, false, false, false, false, false, false, false]
abbrev NCb27 : Array Bool := #[true, true, true, true, true, true, true, true, true, true, true, true, true, true, true, true, true, true, true, true, true, true, true, true, true, true, true, true, false, false, false, false, false, false, false, false, false, false]
abbrev NCb28 : Array Bool := #[true, true, true, true, true, true, true, true, true, true, true, true, true, true, true, true, true, true, true, true, true, true, true, true, true, true, true, true, true, false, false, false, false, false, false, false, false, false]
abbrev NCb29 : Array Bool := #[true, true, true, true, true, true, true, true, true, true, true, true, true, true, true, true, true, true, true, true, true, true, true, true, true, true, true, true, true, true, false, false, false, false, false, false, false, false]
abbrev NCb30 : Array Bool := #[true, true, true, true, true, true, true, true, true, true, true, true, true, true, true, true, true, true, true, true, true, true, true, true, true, true, true, true, true, true, true, false, false, false, false, false, false, false]
abbrev NCb31 : Array Bool := #[true, true, true, true, true, true, true, true, true, true, true, true, true, true, true, true, true, true, true, true, true, true, true, true, true, true, true, true, true, true, true, true, false, false, false, false, false, false]
abbrev NCb32 : Array Bool := #[true, true, true, true, true, true, true, true, true, true, true, true, true, true, true, true, true, true, true, true, true, true, true, true, true, true, true, true, true, true, true, true, true, false, false, false, false, false]
abbrev NCb33 : Array Bool := #[true, true, true, true, true, true, true, true, true, true, true, true, true, true, true, true, true, true, true, true, true, true, true, true, true, true, true, true, true, true, true, true, true, true, false, false, false, false]
abbrev NCb34 : Array Bool := #[true, true, true, true, true, true, true, true, true, true, true, true, true, true, true, true, true, true, true, true, true, true, true, true, true, true, true, true, true, true, true, true, true, true, true, false, false, false]
abbrev NCb35 : Array Bool := #[true, true, true, true, true, true, true, true, true, true, true, true, true, true, true, true, true, true, true, true, true, true, true, true, true, true, true, true, true, true, true, true, true, true, true, true, false, false]
abbrev NCb36 : Array Bool := #[true, true, true, true, true, true, true, true, true, true, true, true, true, true, true, true, true, true, true, true, true, true, true, true, true, true, true, true, true, true, true, true, true, true, true, true, true, false]
abbrev NCb37 : Array Bool := #[true, true, true, true, true, true, true, true, true, true, true, true, true, true, true, true, true, true, true, true, true, true, true, true, true, true, true, true, true, true, true, true, true, true, true, true, true, true]
abbrev NCb38 : Array Bool := #[true, true, true, true, true, false, true, false, false, false, false, false, false, false, false, false, false, false, false, false, false, false, false, false, false, false, false, false, false, false, false, false, false, false, false, false, false, false]
abbrev NCb39 : Array Bool := #[true, true, true, true, true, true, true, true, true, true, true, true, true, true, true, false, true, false, false, false, false, false, false, false, false, false, false, false, false, false, false, false, false, false, false, false, false, false]
abbrev NCb40 : Array Bool := #[true, true, true, true, true, true, true, true, true, true, true, true, true, true, true, false, true, true, false, false, false, false, false, false, false, false, false, false, false, false, false, false, false, false, false, false, false, false]
abbrev NCb41 : Array Bool := #[true, true, true, true, true, true, true, true, true, true, true, true, true, true, true, false, true, true, false, false, false, true, false, false, false, false, false, false, false, false, false, false, false, false, false, false, false, false]
abbrev NCb42 : Array Bool := #[true, true, true, true, true, true, true, true, true, true, true, true, true, true, true, true, true, true, false, false, false, true, false, false, false, false, false, false, false, false, false, false, false, false, false, false, false, false]
abbrev NCb43 : Array Bool := #[true, true, true, true, true, true, true, true, true, true, true, true, true, true, true, true, true, true, true, false, false, true, false, false, false, false, false, false, false, false, false, false, false, false, false, false, false, false]
abbrev NCb44 : Array Bool := #[true, true, true, true, true, true, true, true, true, true, true, true, true, true, true, true, true, true, true, true, false, true, false, false, false, false, false, false, false, false, false, false, false, false, false, false, false, false]

abbrev ckOf (l : List S36) (i : Int) : Int := (rd_T36 l i).f0
abbrev tidOf (l : List S36) (i : Int) : Int := (rd_T36 l i).f1
/-- May notice i stand in a desk whose next cookie is nx? -/
def okAt (nx : Int) (l : List S36) (i : Nat) : Prop := 1 ≤ ckOf l i ∧ ckOf l i < nx ∧ (0 < i → ckOf l ((i : Int) - 1) < ckOf l i) ∧ 1 ≤ tidOf l i ∧ tidOf l i ≤ 20 ∧ (l.take i).any (fun x => x.f1 == tidOf l i) = false
instance (nx : Int) (l : List S36) (i : Nat) : Decidable (okAt nx l i) := by unfold okAt; infer_instance
/-- May a desk be? -/
def Dok (nx : Int) (l : List S36) : Prop := 1 ≤ nx ∧ nx ≤ 4611686018427387904 ∧ (l.length : Int) ≤ 8 ∧ ∀ i : Nat, i < l.length → okAt nx l i
instance (nx : Int) (l : List S36) : Decidable (Dok nx l) := by unfold Dok; infer_instance
def chkV (nx : Int) (l : List S36) : Int := if Dok nx l then 0 else 350
abbrev seen (l : List S36) (k : Nat) : Int → Bool := fun t => (l.take k).any (fun x => x.f1 == t)
theorem seen_step (l : List S36) (k : Nat) (hk : k < l.length) : (fun j => j == tidOf l k || seen l k j) = seen l (k + 1) := by
 funext t
 have e : rd_T36 l (k : Int) = l[k] := by unfold rd_T36; simp [hk]
 simp only [seen, tidOf, List.take_add_one, e, List.getElem?_eq_getElem hk, Option.toList_some, List.any_append, List.any_cons, List.any_nil, Bool.or_false]
 rw [Bool.or_comm]
 congr 1
 rw [Bool.eq_iff_iff, beq_iff_eq, beq_iff_eq]
 exact eq_comm
abbrev deskC (nx : Int) (v : Value) : Obj := .cells #[.int .u64 nx, v] 25 (0, 0)
theorem max9 {k : Nat} (h : k < 9) : k < maxLen := Nat.lt_trans h (by decide)
theorem al_new (w : World) (o : Obj) : (w.alloc o).heap[w.heap.size]? = some o := by
 show (w.heap.push o)[w.heap.size]? = some o
 simp
theorem al_keep {w : World} {g : Nat} {ob o : Obj} (h : w.heap[g]? = some ob) : (w.alloc o).heap[g]? = some ob := (Below.heap_alloc w o g (blk_lt h)).trans h
def chk.T7 : Bool × List (List Nat × List Nat) := (true, [([], []), ([0], [0]), ([1], [1]), ([2], [2]), ([3], [3]), ([4, 3], [3, 4]), ([3], [3]), ([6, 3], [3, 6]), ([5, 7, 3], [3, 5, 7]), ([3, 8], [3, 8]), ([9, 3], [9]), ([10], [10]), ([11, 10], [10, 11]), ([12, 10, 10], [10, 12]), ([13], [13]), ([14, 13], [13, 14]), ([13], [13]), ([16, 13], [13, 16]), ([15, 17, 13], [13, 15, 17]), ([18, 13], [13, 18]), ([19, 13], [13, 19]), ([13], [13]), ([21, 13], [13, 21]), ([20, 22, 13], [13, 20, 22]), ([13, 23, 10], [10, 13, 23]), ([10, 24], [10, 24]), ([25, 13], [25]), ([26], [26]), ([27, 26], [26, 27]), ([28, 26, 26], [26, 28]), ([29, 26], [26, 29]), ([26, 30], [26, 30]), ([31, 29], [31]), ([32], [32]), ([32], [32]), ([34, 32], [32, 34]), ([33, 35, 32], [32, 33, 35]), ([32, 36], [32, 36])])
def chk.B7 : List Nat := [0, 1, 3, 7, 15, 31, 15, 79, 255, 511, 1023, 2047, 4095, 8191, 16383, 32767, 16383, 81919, 262143, 524287, 1048575, 16383, 2113535, 8388607, 16777215, 33554431, 67108863, 134217727, 268435455, 536870911, 1073741823, 2147483647, 4294967295, 8589934591, 8589934591, 25769803775, 68719476735, 137438953471]
theorem chk.tab7 : rtab .any (opsOf Tryd.f21 7) = chk.T7 := by kernel_rfl
theorem chk.bits7 : waitsOk chk.T7.2 chk.B7 = true := by kernel_rfl
set_option maxRecDepth 100000 in
set_option maxHeartbeats 4000000 in
theorem check_w (nx : Int) (A : Option Addr) (c : Nat) (l : List S36) (hc : l.length ≤ c) (w : World) (hr : Kd.C k36 w A l.length l) : (Calls Tryd.prog 21 #[.agg #[.int .u64 nx, .slice A l.length c]] w fun e w' => e = .returned (.int .i64 (chkV nx l)) ∧ Below w.heap.size w w') := by
 obtain ⟨m, hm⟩ : ∃ m, m = l.length := ⟨_, rfl⟩
 have HM := Lib.hid hm
 have HC := Lib.hid hr
 rw [← hm]
 clear hr hm hc
 have hmm := @run_makeMap Tryd.prog
 by_cases h1 : nx < 1
 ·have HV := Lib.hid (show chkV nx l = 350 from if_neg (fun h => by have := h.1; omega))
  go_enter Tryd.func21, Tryd.ntmps21
  go_wp2_with fail
  go_ret
  exact ⟨by rw [HV.out]; rfl, (Below.refl _ w).alloc (Nat.le_refl _) _⟩
 by_cases h2 : 4611686018427387904 < nx
 ·have HV := Lib.hid (show chkV nx l = 350 from if_neg (fun h => by have := h.2.1; omega))
  go_enter Tryd.func21, Tryd.ntmps21
  go_wp2_with fail
  go_ret
  exact ⟨by rw [HV.out]; rfl, (Below.refl _ w).alloc (Nat.le_refl _) _⟩
 by_cases h3 : (8 : Int) < (m : Int)
 ·have HV := Lib.hid (show chkV nx l = 350 from if_neg (fun h => by have := h.2.2.1; have := HM.out; omega))
  go_enter Tryd.func21, Tryd.ntmps21
  go_wp2_with fail
  go_ret
  exact ⟨by rw [HV.out]; rfl, (Below.refl _ w).alloc (Nat.le_refl _) _⟩
 have HH := Lib.hid (And.intro h1 (And.intro h2 h3))
 go_enter Tryd.func21, Tryd.ntmps21
 go_wp2_with fail
 have hB0 : Below w.heap.size w ((w.alloc (.cells #[.int .u64 nx, .slice A m c] 25)).alloc (.map #[] 0)) := ((Below.refl _ w).alloc (Nat.le_refl _) _).alloc (by simp) _
 have hD0 : ((w.alloc (.cells #[.int .u64 nx, .slice A m c] 25)).alloc (.map #[] 0)).heap[w.heap.size]? = some (deskC nx (.slice A m c)) := al_keep (al_new w _)
 have hS0 := SetB.made (w.alloc (.cells #[.int .u64 nx, .slice A m c] 25))
 rw [World.size_alloc] at hS0
 have HB0 := Lib.hid hB0
 have HD0 := Lib.hid hD0
 have HS0 := Lib.hid hS0
 clear hB0 hD0 hS0 hmm
 go_loopw [24] (fun i wr => ∃ (k : Nat) (j : Int), i = .int .i64 j ∧ Hid (j = (k : Int)) ∧ 0 ≤ j ∧ j ≤ (m : Int) ∧ Hid (Below w.heap.size w wr) ∧ Hid (wr.heap[w.heap.size]? = some (deskC nx (.slice A m c))) ∧ Hid (SetB wr (w.heap.size + 1) k (seen l k)) ∧ Hid (∀ q : Nat, q < k → okAt nx l q)) (fun i _ => (m - intOf i).toNat)
 case atStart => exact ⟨0, 0, rfl, Lib.hid rfl, by omega, by omega, HB0, HD0, HS0, Lib.hid (fun q hq => absurd hq (Nat.not_lt_zero _))⟩
 case round =>
  obtain ⟨k, j, rfl, HJ, hj0, hj1, KB, KD, KS, KO⟩ := hrel
  clear HB0 HD0 HS0
  by_cases hlt : j < (m : Int)
  ·obtain ⟨ad, hA, hx0, hx1, hx2, hx3, hx4, hx5, hx6, hx7, hx8, hx9, hx10, hx11⟩ := at_T36 (Kd.C_below HC.out KB.out) j hj0 (by have := HJ.out; have := HM.out; omega)
   subst hA
   obtain ⟨x, hx⟩ : ∃ x, x = rd_T36 l j := ⟨_, rfl⟩
   rw [← hx] at hx0 hx1 hx2 hx3 hx4 hx5 hx6 hx7 hx8 hx9 hx10 hx11
   have HXK := Lib.hid hx
   clear hx
   have hbl := World.block_lt_of_cell? _ _ hx0
   go_wp2_with fail
   clear hx0 hx1 hx2 hx3 hx4 hx5 hx6 hx7 hx8 hx9 hx10 hx11 hbl
   have HX := Lib.hid (al_new wr (.cells #[.int .u64 x.f0, .int .i64 x.f1, .int .u32 x.f2.f0, .int .u32 x.f2.f1, .int .u64 x.f2.f2, .int .u64 x.f2.f3.f0, .int .u64 x.f2.f3.f1, .int .u64 x.f2.f3.f2, .int .u64 x.f2.f3.f3, .int .u64 x.f2.f3.f4, .int .u64 x.f2.f3.f5, .bool x.f3] 36))
   have HD1 := Lib.hid (al_keep (o := (.cells #[.int .u64 x.f0, .int .i64 x.f1, .int .u32 x.f2.f0, .int .u32 x.f2.f1, .int .u64 x.f2.f2, .int .u64 x.f2.f3.f0, .int .u64 x.f2.f3.f1, .int .u64 x.f2.f3.f2, .int .u64 x.f2.f3.f3, .int .u64 x.f2.f3.f4, .int .u64 x.f2.f3.f5, .bool x.f3] 36)) KD.out)
   have HB1 : Below wr.heap.size wr (wr.alloc (.cells #[.int .u64 x.f0, .int .i64 x.f1, .int .u32 x.f2.f0, .int .u32 x.f2.f1, .int .u64 x.f2.f2, .int .u64 x.f2.f3.f0, .int .u64 x.f2.f3.f1, .int .u64 x.f2.f3.f2, .int .u64 x.f2.f3.f3, .int .u64 x.f2.f3.f4, .int .u64 x.f2.f3.f5, .bool x.f3] 36)) := (Below.refl _ wr).alloc (Nat.le_refl _) _
   have KB1 := Lib.hid (KB.out.trans (HB1.mono KB.out.size))
   have HS1 := Lib.hid (KS.out.below HB1 KS.out.lt)
   have HC1 := Lib.hid (Kd.C_below HC.out KB1.out)
   have hlw : w.heap.size + 1 < wr.heap.size := KS.out.lt
   clear HB1 KB KD KS HC
   generalize wr.alloc (.cells #[.int .u64 x.f0, .int .i64 x.f1, .int .u32 x.f2.f0, .int .u32 x.f2.f1, .int .u64 x.f2.f2, .int .u64 x.f2.f3.f0, .int .u64 x.f2.f3.f1, .int .u64 x.f2.f3.f2, .int .u64 x.f2.f3.f3, .int .u64 x.f2.f3.f4, .int .u64 x.f2.f3.f5, .bool x.f3] 36) = w1 at HX HD1 KB1 HS1 HC1 ⊢
   by_cases c1 : x.f0 < 1
   ·have c1b := decide_eq_true c1
    have HV := Lib.hid (show chkV nx l = 350 from if_neg (fun h => by have q := (h.2.2.2 k (by have := HJ.out; have := HM.out; omega)).1; rw [ckOf, ← (show x = rd_T36 l (k : Int) by rw [HXK.out, HJ.out])] at q; omega))
    have HP := Lib.hid True.intro
    have HSS : Below w1.heap.size w1 w1.drew := below_drew (Below.refl _ _)
    refine start_ (n := 38) (S := fun w' => Below w1.heap.size w1 w') (ds := []) NCb0 (by kernel_rfl) rfl rfl (HSS) (fun hHeld => ?_); refine with_tabW chk.tab7 chk.bits7 (fun HT_ HW_ => ?_)
    refine pure_ (i := 0) (N := some 29) (v := ?_) (a' := ?_) NCb1 rfl rfl (any_of HT_.out (by kernel_rfl)) (fun _ _ _ h => h) (Or.inl ⟨by rfl, ?_⟩) ?_ ?_
    rotate_left
    ·intro w'
     go_simp
     with_reducible rfl
    rotate_left
    ·(try simp only [Act.put, List.setIfInBounds_toArray, List.set_cons_zero, List.set_cons_succ])
     rfl
    refine take_ (i := 1) (N := some 30) (v := ?_) (a' := ?_) NCb2 rfl rfl (take_ofW HT_.out HW_.out (by kernel_rfl)) (fun _ _ _ h => h) (Or.inl ⟨by rfl, ?_⟩) hHeld ?_ ?_
    rotate_left
    ·intro w' hS_
     have hx_ : w'.cell? ⟨wr.heap.size, 0, none⟩ = _ := blk_cell ((hS_.block _ (blk_lt HX.out)).trans HX.out) 0
     go_simp
     with_reducible rfl
    rotate_left
    ·(try simp only [Act.put, List.setIfInBounds_toArray, List.set_cons_zero, List.set_cons_succ])
     rfl
    refine pure_ (i := 2) (N := some 31) (v := ?_) (a' := ?_) NCb3 rfl rfl (any_of HT_.out (by kernel_rfl)) (fun _ _ _ h => h) (Or.inl ⟨by rfl, ?_⟩) ?_ ?_
    rotate_left
    ·intro w'
     go_simp
     with_reducible rfl
    rotate_left
    ·(try simp only [Act.put, List.setIfInBounds_toArray, List.set_cons_zero, List.set_cons_succ])
     rfl
    refine pure_ (i := 3) (N := some 32) (v := ?_) (a' := ?_) NCb4 rfl rfl (any_of HT_.out (by kernel_rfl)) (fun _ _ _ h => h) (Or.inl ⟨by rfl, ?_⟩) ?_ ?_
    rotate_left
    ·intro w'
     go_simp
     with_reducible rfl
    rotate_left
    ·(try simp only [Act.put, List.setIfInBounds_toArray, List.set_cons_zero, List.set_cons_succ])
     rfl
    refine pure_ (i := 4) (N := some 33) (v := undef) (a' := ?_) NCb5 rfl rfl (any_of HT_.out (by kernel_rfl)) (fun _ _ _ h => h) (Or.inr ⟨by rfl, rfl⟩) ?_ ?_
    rotate_left
    ·(try simp only [Act.put, List.setIfInBounds_toArray, List.set_cons_zero, List.set_cons_succ])
     rfl
    refine pure_ (i := 5) (N := some 34) (v := undef) (a' := ?_) #[true, true, true, true, true, true, false, false, false, false, false, false, false, false, false, false, false, false, false, false, false, false, false, false, false, false, false, false, false, false, false, false, false, false, false, false, false, false] rfl rfl (any_of HT_.out (by kernel_rfl)) (fun _ _ _ h => h) (Or.inr ⟨by rfl, rfl⟩) ?_ ?_
    rotate_left
    ·(try simp only [Act.put, List.setIfInBounds_toArray, List.set_cons_zero, List.set_cons_succ])
     rfl
    refine pure_ (i := 6) (N := some 35) (v := undef) (a' := ?_) NCb6 rfl rfl (any_of HT_.out (by kernel_rfl)) (fun _ _ _ h => h) (Or.inr ⟨by rfl, rfl⟩) ?_ ?_
    rotate_left
    ·(try simp only [Act.put, List.setIfInBounds_toArray, List.set_cons_zero, List.set_cons_succ])
     rfl
    refine pure_ (i := 7) (N := some 36) (v := undef) (a' := ?_) NCb7 rfl rfl (any_of HT_.out (by kernel_rfl)) (fun _ _ _ h => h) (Or.inr ⟨by rfl, rfl⟩) ?_ ?_
    rotate_left
    ·(try simp only [Act.put, List.setIfInBounds_toArray, List.set_cons_zero, List.set_cons_succ])
     rfl
    refine pure_ (i := 8) (N := some 37) (v := undef) (a' := ?_) NCb8 rfl rfl (any_of HT_.out (by kernel_rfl)) (fun _ _ _ h => h) (Or.inr ⟨by rfl, rfl⟩) ?_ ?_
    rotate_left
    ·(try simp only [Act.put, List.setIfInBounds_toArray, List.set_cons_zero, List.set_cons_succ])
     rfl
    refine pure_ (i := 9) (N := some 38) (v := ?_) (a' := ?_) NCb9 rfl rfl (any_of HT_.out (by kernel_rfl)) (fun _ _ _ h => h) (Or.inl ⟨by rfl, ?_⟩) ?_ ?_
    rotate_left
    ·intro w'
     go_simp
     with_reducible rfl
    rotate_left
    ·(try simp only [Act.put, List.setIfInBounds_toArray, List.set_cons_zero, List.set_cons_succ])
     rfl
    refine pure_ (i := 10) (N := some 39) (v := ?_) (a' := ?_) NCb10 rfl rfl (any_of HT_.out (by kernel_rfl)) (fun _ _ _ h => h) (Or.inl ⟨by rfl, ?_⟩) ?_ ?_
    rotate_left
    ·intro w'
     go_simp
     with_reducible rfl
    rotate_left
    ·(try simp only [Act.put, List.setIfInBounds_toArray, List.set_cons_zero, List.set_cons_succ])
     rfl
    refine pure_ (i := 11) (N := some 40) (v := undef) (a' := ?_) NCb11 rfl rfl (any_of HT_.out (by kernel_rfl)) (fun _ _ _ h => h) (Or.inr ⟨by rfl, rfl⟩) ?_ ?_
    rotate_left
    ·(try simp only [Act.put, List.setIfInBounds_toArray, List.set_cons_zero, List.set_cons_succ])
     rfl
    refine pure_ (i := 12) (N := some 41) (v := undef) (a' := ?_) NCb12 rfl rfl (any_of HT_.out (by kernel_rfl)) (fun _ _ _ h => h) (Or.inr ⟨by rfl, rfl⟩) ?_ ?_
    rotate_left
    ·(try simp only [Act.put, List.setIfInBounds_toArray, List.set_cons_zero, List.set_cons_succ])
     rfl
    refine pure_ (i := 13) (N := some 42) (v := undef) (a' := ?_) NCb13 rfl rfl (any_of HT_.out (by kernel_rfl)) (fun _ _ _ h => h) (Or.inr ⟨by rfl, rfl⟩) ?_ ?_
    rotate_left
    ·(try simp only [Act.put, List.setIfInBounds_toArray, List.set_cons_zero, List.set_cons_succ])
     rfl
    refine pure_ (i := 14) (N := some 43) (v := undef) (a' := ?_) NCb14 rfl rfl (any_of HT_.out (by kernel_rfl)) (fun _ _ _ h => h) (Or.inr ⟨by rfl, rfl⟩) ?_ ?_
    rotate_left
    ·(try simp only [Act.put, List.setIfInBounds_toArray, List.set_cons_zero, List.set_cons_succ])
     rfl
    refine pure_ (i := 15) (N := some 44) (v := undef) (a' := ?_) NCb15 rfl rfl (any_of HT_.out (by kernel_rfl)) (fun _ _ _ h => h) (Or.inr ⟨by rfl, rfl⟩) ?_ ?_
    rotate_left
    ·(try simp only [Act.put, List.setIfInBounds_toArray, List.set_cons_zero, List.set_cons_succ])
     rfl
    refine pure_ (i := 16) (N := some 45) (v := undef) (a' := ?_) NCb16 rfl rfl (any_of HT_.out (by kernel_rfl)) (fun _ _ _ h => h) (Or.inr ⟨by rfl, rfl⟩) ?_ ?_
    rotate_left
    ·(try simp only [Act.put, List.setIfInBounds_toArray, List.set_cons_zero, List.set_cons_succ])
     rfl
    refine pure_ (i := 17) (N := some 46) (v := undef) (a' := ?_) NCb17 rfl rfl (any_of HT_.out (by kernel_rfl)) (fun _ _ _ h => h) (Or.inr ⟨by rfl, rfl⟩) ?_ ?_
    rotate_left
    ·(try simp only [Act.put, List.setIfInBounds_toArray, List.set_cons_zero, List.set_cons_succ])
     rfl
    refine pure_ (i := 18) (N := some 47) (v := undef) (a' := ?_) NCb18 rfl rfl (any_of HT_.out (by kernel_rfl)) (fun _ _ _ h => h) (Or.inr ⟨by rfl, rfl⟩) ?_ ?_
    rotate_left
    ·(try simp only [Act.put, List.setIfInBounds_toArray, List.set_cons_zero, List.set_cons_succ])
     rfl
    refine pure_ (i := 19) (N := some 48) (v := undef) (a' := ?_) NCb19 rfl rfl (any_of HT_.out (by kernel_rfl)) (fun _ _ _ h => h) (Or.inr ⟨by rfl, rfl⟩) ?_ ?_
    rotate_left
    ·(try simp only [Act.put, List.setIfInBounds_toArray, List.set_cons_zero, List.set_cons_succ])
     rfl
    refine pure_ (i := 20) (N := some 49) (v := undef) (a' := ?_) NCb20 rfl rfl (any_of HT_.out (by kernel_rfl)) (fun _ _ _ h => h) (Or.inr ⟨by rfl, rfl⟩) ?_ ?_
    rotate_left
    ·(try simp only [Act.put, List.setIfInBounds_toArray, List.set_cons_zero, List.set_cons_succ])
     rfl
    refine pure_ (i := 21) (N := some 50) (v := undef) (a' := ?_) NCb21 rfl rfl (any_of HT_.out (by kernel_rfl)) (fun _ _ _ h => h) (Or.inr ⟨by rfl, rfl⟩) ?_ ?_
    rotate_left
    ·(try simp only [Act.put, List.setIfInBounds_toArray, List.set_cons_zero, List.set_cons_succ])
     rfl
    refine pure_ (i := 22) (N := some 51) (v := undef) (a' := ?_) NCb22 rfl rfl (any_of HT_.out (by kernel_rfl)) (fun _ _ _ h => h) (Or.inr ⟨by rfl, rfl⟩) ?_ ?_
    rotate_left
    ·(try simp only [Act.put, List.setIfInBounds_toArray, List.set_cons_zero, List.set_cons_succ])
     rfl
    refine pure_ (i := 23) (N := some 52) (v := undef) (a' := ?_) NCb23 rfl rfl (any_of HT_.out (by kernel_rfl)) (fun _ _ _ h => h) (Or.inr ⟨by rfl, rfl⟩) ?_ ?_
    rotate_left
    ·(try simp only [Act.put, List.setIfInBounds_toArray, List.set_cons_zero, List.set_cons_succ])
     rfl
    refine pure_ (i := 24) (N := some 53) (v := undef) (a' := ?_) NCb24 rfl rfl (any_of HT_.out (by kernel_rfl)) (fun _ _ _ h => h) (Or.inr ⟨by rfl, rfl⟩) ?_ ?_
    rotate_left
    ·(try simp only [Act.put, List.setIfInBounds_toArray, List.set_cons_zero, List.set_cons_succ])
     rfl
    refine pure_ (i := 25) (N := some 54) (v := ?_) (a' := ?_) NCb25 rfl rfl (any_of HT_.out (by kernel_rfl)) (fun _ _ _ h => h) (Or.inl ⟨by rfl, ?_⟩) ?_ ?_
    rotate_left
    ·intro w'
     go_simp
     with_reducible rfl
    rotate_left
    ·(try simp only [Act.put, List.setIfInBounds_toArray, List.set_cons_zero, List.set_cons_succ])
     rfl
    refine pure_ (i := 26) (N := some 55) (v := ?_) (a' := ?_) NCb26 rfl rfl (any_of HT_.out (by kernel_rfl)) (fun _ _ _ h => h) (Or.inl ⟨by rfl, ?_⟩) ?_ ?_
    rotate_left
    ·intro w'
     go_simp
     with_reducible rfl
    rotate_left
    ·(try simp only [Act.put, List.setIfInBounds_toArray, List.set_cons_zero, List.set_cons_succ])
     rfl
    refine pure_ (i := 27) (N := some 56) (v := undef) (a' := ?_) NCb27 rfl rfl (any_of HT_.out (by kernel_rfl)) (fun _ _ _ h => h) (Or.inr ⟨by rfl, rfl⟩) ?_ ?_
    rotate_left
    ·(try simp only [Act.put, List.setIfInBounds_toArray, List.set_cons_zero, List.set_cons_succ])
     rfl
    refine pure_ (i := 28) (N := some 57) (v := undef) (a' := ?_) NCb28 rfl rfl (any_of HT_.out (by kernel_rfl)) (fun _ _ _ h => h) (Or.inr ⟨by rfl, rfl⟩) ?_ ?_
    rotate_left
    ·(try simp only [Act.put, List.setIfInBounds_toArray, List.set_cons_zero, List.set_cons_succ])
     rfl
    refine pure_ (i := 29) (N := some 58) (v := undef) (a' := ?_) NCb29 rfl rfl (any_of HT_.out (by kernel_rfl)) (fun _ _ _ h => h) (Or.inr ⟨by rfl, rfl⟩) ?_ ?_
    rotate_left
    ·(try simp only [Act.put, List.setIfInBounds_toArray, List.set_cons_zero, List.set_cons_succ])
     rfl
    refine pure_ (i := 30) (N := some 59) (v := undef) (a' := ?_) NCb30 rfl rfl (any_of HT_.out (by kernel_rfl)) (fun _ _ _ h => h) (Or.inr ⟨by rfl, rfl⟩) ?_ ?_
    rotate_left
    ·(try simp only [Act.put, List.setIfInBounds_toArray, List.set_cons_zero, List.set_cons_succ])
     rfl
    refine pure_ (i := 31) (N := some 60) (v := ?_) (a' := ?_) NCb31 rfl rfl (any_of HT_.out (by kernel_rfl)) (fun _ _ _ h => h) (Or.inl ⟨by rfl, ?_⟩) ?_ ?_
    rotate_left
    ·intro w'
     go_simp
     with_reducible rfl
    rotate_left
    ·(try simp only [Act.put, List.setIfInBounds_toArray, List.set_cons_zero, List.set_cons_succ])
     rfl
    refine pure_ (i := 32) (N := some 61) (v := ?_) (a' := ?_) NCb32 rfl rfl (any_of HT_.out (by kernel_rfl)) (fun _ _ _ h => h) (Or.inl ⟨by rfl, ?_⟩) ?_ ?_
    rotate_left
    ·intro w'
     go_simp
     with_reducible rfl
    rotate_left
    ·(try simp only [Act.put, List.setIfInBounds_toArray, List.set_cons_zero, List.set_cons_succ])
     rfl
    refine pure_ (i := 33) (N := some 62) (v := undef) (a' := ?_) NCb33 rfl rfl (any_of HT_.out (by kernel_rfl)) (fun _ _ _ h => h) (Or.inr ⟨by rfl, rfl⟩) ?_ ?_
    rotate_left
    ·(try simp only [Act.put, List.setIfInBounds_toArray, List.set_cons_zero, List.set_cons_succ])
     rfl
    refine pure_ (i := 34) (N := some 63) (v := undef) (a' := ?_) NCb34 rfl rfl (any_of HT_.out (by kernel_rfl)) (fun _ _ _ h => h) (Or.inr ⟨by rfl, rfl⟩) ?_ ?_
    rotate_left
    ·(try simp only [Act.put, List.setIfInBounds_toArray, List.set_cons_zero, List.set_cons_succ])
     rfl
    refine pure_ (i := 35) (N := some 64) (v := undef) (a' := ?_) NCb35 rfl rfl (any_of HT_.out (by kernel_rfl)) (fun _ _ _ h => h) (Or.inr ⟨by rfl, rfl⟩) ?_ ?_
    rotate_left
    ·(try simp only [Act.put, List.setIfInBounds_toArray, List.set_cons_zero, List.set_cons_succ])
     rfl
    refine pure_ (i := 36) (N := some 65) (v := undef) (a' := ?_) NCb36 rfl rfl (any_of HT_.out (by kernel_rfl)) (fun _ _ _ h => h) (Or.inr ⟨by rfl, rfl⟩) ?_ ?_
    rotate_left
    ·(try simp only [Act.put, List.setIfInBounds_toArray, List.set_cons_zero, List.set_cons_succ])
     rfl
    refine pure_ (i := 37) (N := some 66) (v := ?_) (a' := ?_) NCb37 rfl rfl (any_of HT_.out (by kernel_rfl)) (fun _ _ _ h => h) (Or.inl ⟨by rfl, ?_⟩) ?_ ?_
    rotate_left
    ·intro w'
     go_simp
     with_reducible rfl
    rotate_left
    ·(try simp only [Act.put, List.setIfInBounds_toArray, List.set_cons_zero, List.set_cons_succ])
     rfl
    refine done_ (done_of HT_.out (by kernel_rfl)) ?_
    clear HT_ HW_
    have HE := hHeld.size
    have HBW := (KB1.out).trans (hHeld.mono KB1.out.size)
    clear hHeld HSS HX HD1 HS1 HP
    go_wp2_with fail
    go_ret
    exact ⟨by rw [HV.out]; rfl, HBW⟩

   have c1b := decide_eq_false c1
   by_cases c2 : nx ≤ x.f0
   ·have c2b := decide_eq_true c2
    have HV := Lib.hid (show chkV nx l = 350 from if_neg (fun h => by have q := (h.2.2.2 k (by have := HJ.out; have := HM.out; omega)).2.1; rw [ckOf, ← (show x = rd_T36 l (k : Int) by rw [HXK.out, HJ.out])] at q; omega))
    have HP := Lib.hid True.intro
    have HSS : Below w1.heap.size w1 w1.drew := below_drew (Below.refl _ _)
    refine start_ (n := 38) (S := fun w' => Below w1.heap.size w1 w') (ds := []) NCb0 (by kernel_rfl) rfl rfl (HSS) (fun hHeld => ?_); refine with_tabW chk.tab7 chk.bits7 (fun HT_ HW_ => ?_)
    refine pure_ (i := 0) (N := some 29) (v := ?_) (a' := ?_) NCb1 rfl rfl (any_of HT_.out (by kernel_rfl)) (fun _ _ _ h => h) (Or.inl ⟨by rfl, ?_⟩) ?_ ?_
    rotate_left
    ·intro w'
     go_simp
     with_reducible rfl
    rotate_left
    ·(try simp only [Act.put, List.setIfInBounds_toArray, List.set_cons_zero, List.set_cons_succ])
     rfl
    refine take_ (i := 1) (N := some 30) (v := ?_) (a' := ?_) NCb2 rfl rfl (take_ofW HT_.out HW_.out (by kernel_rfl)) (fun _ _ _ h => h) (Or.inl ⟨by rfl, ?_⟩) hHeld ?_ ?_
    rotate_left
    ·intro w' hS_
     have hx_ : w'.cell? ⟨wr.heap.size, 0, none⟩ = _ := blk_cell ((hS_.block _ (blk_lt HX.out)).trans HX.out) 0
     go_simp
     with_reducible rfl
    rotate_left
    ·(try simp only [Act.put, List.setIfInBounds_toArray, List.set_cons_zero, List.set_cons_succ])
     rfl
    refine pure_ (i := 2) (N := some 31) (v := ?_) (a' := ?_) NCb3 rfl rfl (any_of HT_.out (by kernel_rfl)) (fun _ _ _ h => h) (Or.inl ⟨by rfl, ?_⟩) ?_ ?_
    rotate_left
    ·intro w'
     go_simp
     with_reducible rfl
    rotate_left
    ·(try simp only [Act.put, List.setIfInBounds_toArray, List.set_cons_zero, List.set_cons_succ])
     rfl
    refine pure_ (i := 3) (N := some 32) (v := ?_) (a' := ?_) NCb4 rfl rfl (any_of HT_.out (by kernel_rfl)) (fun _ _ _ h => h) (Or.inl ⟨by rfl, ?_⟩) ?_ ?_
    rotate_left
    ·intro w'
     go_simp
     with_reducible rfl
    rotate_left
    ·(try simp only [Act.put, List.setIfInBounds_toArray, List.set_cons_zero, List.set_cons_succ])
     rfl
    refine pure_ (i := 4) (N := some 33) (v := ?_) (a' := ?_) NCb5 rfl rfl (any_of HT_.out (by kernel_rfl)) (fun _ _ _ h => h) (Or.inl ⟨by rfl, ?_⟩) ?_ ?_
    rotate_left
    ·intro w'
     go_simp
     with_reducible rfl
    rotate_left
    ·(try simp only [Act.put, List.setIfInBounds_toArray, List.set_cons_zero, List.set_cons_succ])
     rfl
    refine pure_ (i := 6) (N := some 35) (v := ?_) (a' := ?_) NCb38 rfl rfl (any_of HT_.out (by kernel_rfl)) (fun _ _ _ h => h) (Or.inl ⟨by rfl, ?_⟩) ?_ ?_
    rotate_left
    ·intro w'
     go_simp
     with_reducible rfl
    rotate_left
    ·(try simp only [Act.put, List.setIfInBounds_toArray, List.set_cons_zero, List.set_cons_succ])
     rfl
    refine take_ (i := 5) (N := some 34) (v := ?_) (a' := ?_) NCb6 rfl rfl (take_ofW HT_.out HW_.out (by kernel_rfl)) (fun _ _ _ h => h) (Or.inl ⟨by rfl, ?_⟩) hHeld ?_ ?_
    rotate_left
    ·intro w' hS_
     have hx_ : w'.cell? ⟨wr.heap.size, 0, none⟩ = _ := blk_cell ((hS_.block _ (blk_lt HX.out)).trans HX.out) 0
     go_simp
     with_reducible rfl
    rotate_left
    ·(try simp only [Act.put, List.setIfInBounds_toArray, List.set_cons_zero, List.set_cons_succ])
     rfl
    refine take_ (i := 7) (N := some 36) (v := ?_) (a' := ?_) NCb7 rfl rfl (take_ofW HT_.out HW_.out (by kernel_rfl)) (fun _ _ _ h => h) (Or.inl ⟨by rfl, ?_⟩) hHeld ?_ ?_
    rotate_left
    ·intro w' hS_
     have hx_ : w'.cell? ⟨w.heap.size, 0, none⟩ = _ := blk_cell ((hS_.block _ (blk_lt HD1.out)).trans HD1.out) 0
     go_simp
     with_reducible rfl
    rotate_left
    ·(try simp only [Act.put, List.setIfInBounds_toArray, List.set_cons_zero, List.set_cons_succ])
     rfl
    refine pure_ (i := 8) (N := some 37) (v := ?_) (a' := ?_) NCb8 rfl rfl (any_of HT_.out (by kernel_rfl)) (fun _ _ _ h => h) (Or.inl ⟨by rfl, ?_⟩) ?_ ?_
    rotate_left
    ·intro w'
     go_simp
     with_reducible rfl
    rotate_left
    ·(try simp only [Act.put, List.setIfInBounds_toArray, List.set_cons_zero, List.set_cons_succ])
     rfl
    refine pure_ (i := 9) (N := some 38) (v := ?_) (a' := ?_) NCb9 rfl rfl (any_of HT_.out (by kernel_rfl)) (fun _ _ _ h => h) (Or.inl ⟨by rfl, ?_⟩) ?_ ?_
    rotate_left
    ·intro w'
     go_simp
     with_reducible rfl
    rotate_left
    ·(try simp only [Act.put, List.setIfInBounds_toArray, List.set_cons_zero, List.set_cons_succ])
     rfl
    refine pure_ (i := 10) (N := some 39) (v := ?_) (a' := ?_) NCb10 rfl rfl (any_of HT_.out (by kernel_rfl)) (fun _ _ _ h => h) (Or.inl ⟨by rfl, ?_⟩) ?_ ?_
    rotate_left
    ·intro w'
     go_simp
     with_reducible rfl
    rotate_left
    ·(try simp only [Act.put, List.setIfInBounds_toArray, List.set_cons_zero, List.set_cons_succ])
     rfl
    refine pure_ (i := 11) (N := some 40) (v := undef) (a' := ?_) NCb11 rfl rfl (any_of HT_.out (by kernel_rfl)) (fun _ _ _ h => h) (Or.inr ⟨by rfl, rfl⟩) ?_ ?_
    rotate_left
    ·(try simp only [Act.put, List.setIfInBounds_toArray, List.set_cons_zero, List.set_cons_succ])
     rfl
    refine pure_ (i := 12) (N := some 41) (v := undef) (a' := ?_) NCb12 rfl rfl (any_of HT_.out (by kernel_rfl)) (fun _ _ _ h => h) (Or.inr ⟨by rfl, rfl⟩) ?_ ?_
    rotate_left
    ·(try simp only [Act.put, List.setIfInBounds_toArray, List.set_cons_zero, List.set_cons_succ])
     rfl
    refine pure_ (i := 13) (N := some 42) (v := undef) (a' := ?_) NCb13 rfl rfl (any_of HT_.out (by kernel_rfl)) (fun _ _ _ h => h) (Or.inr ⟨by rfl, rfl⟩) ?_ ?_
    rotate_left
    ·(try simp only [Act.put, List.setIfInBounds_toArray, List.set_cons_zero, List.set_cons_succ])
     rfl
    refine pure_ (i := 14) (N := some 43) (v := undef) (a' := ?_) NCb14 rfl rfl (any_of HT_.out (by kernel_rfl)) (fun _ _ _ h => h) (Or.inr ⟨by rfl, rfl⟩) ?_ ?_
    rotate_left
    ·(try simp only [Act.put, List.setIfInBounds_toArray, List.set_cons_zero, List.set_cons_succ])
     rfl
    refine pure_ (i := 15) (N := some 44) (v := undef) (a' := ?_) NCb15 rfl rfl (any_of HT_.out (by kernel_rfl)) (fun _ _ _ h => h) (Or.inr ⟨by rfl, rfl⟩) ?_ ?_
    rotate_left
    ·(try simp only [Act.put, List.setIfInBounds_toArray, List.set_cons_zero, List.set_cons_succ])
     rfl
    refine pure_ (i := 16) (N := some 45) (v := undef) (a' := ?_) NCb16 rfl rfl (any_of HT_.out (by kernel_rfl)) (fun _ _ _ h => h) (Or.inr ⟨by rfl, rfl⟩) ?_ ?_
    rotate_left
    ·(try simp only [Act.put, List.setIfInBounds_toArray, List.set_cons_zero, List.set_cons_succ])
     rfl
    refine pure_ (i := 17) (N := some 46) (v := undef) (a' := ?_) NCb17 rfl rfl (any_of HT_.out (by kernel_rfl)) (fun _ _ _ h => h) (Or.inr ⟨by rfl, rfl⟩) ?_ ?_
    rotate_left
    ·(try simp only [Act.put, List.setIfInBounds_toArray, List.set_cons_zero, List.set_cons_succ])
     rfl
    refine pure_ (i := 18) (N := some 47) (v := undef) (a' := ?_) NCb18 rfl rfl (any_of HT_.out (by kernel_rfl)) (fun _ _ _ h => h) (Or.inr ⟨by rfl, rfl⟩) ?_ ?_
    rotate_left
    ·(try simp only [Act.put, List.setIfInBounds_toArray, List.set_cons_zero, List.set_cons_succ])
     rfl
    refine pure_ (i := 19) (N := some 48) (v := undef) (a' := ?_) NCb19 rfl rfl (any_of HT_.out (by kernel_rfl)) (fun _ _ _ h => h) (Or.inr ⟨by rfl, rfl⟩) ?_ ?_
    rotate_left
    ·(try simp only [Act.put, List.setIfInBounds_toArray, List.set_cons_zero, List.set_cons_succ])
     rfl
    refine pure_ (i := 20) (N := some 49) (v := undef) (a' := ?_) NCb20 rfl rfl (any_of HT_.out (by kernel_rfl)) (fun _ _ _ h => h) (Or.inr ⟨by rfl, rfl⟩) ?_ ?_
    rotate_left
    ·(try simp only [Act.put, List.setIfInBounds_toArray, List.set_cons_zero, List.set_cons_succ])
     rfl
    refine pure_ (i := 21) (N := some 50) (v := undef) (a' := ?_) NCb21 rfl rfl (any_of HT_.out (by kernel_rfl)) (fun _ _ _ h => h) (Or.inr ⟨by rfl, rfl⟩) ?_ ?_
    rotate_left
    ·(try simp only [Act.put, List.setIfInBounds_toArray, List.set_cons_zero, List.set_cons_succ])
     rfl
    refine pure_ (i := 22) (N := some 51) (v := undef) (a' := ?_) NCb22 rfl rfl (any_of HT_.out (by kernel_rfl)) (fun _ _ _ h => h) (Or.inr ⟨by rfl, rfl⟩) ?_ ?_
    rotate_left
    ·(try simp only [Act.put, List.setIfInBounds_toArray, List.set_cons_zero, List.set_cons_succ])
     rfl
    refine pure_ (i := 23) (N := some 52) (v := undef) (a' := ?_) NCb23 rfl rfl (any_of HT_.out (by kernel_rfl)) (fun _ _ _ h => h) (Or.inr ⟨by rfl, rfl⟩) ?_ ?_
    rotate_left
    ·(try simp only [Act.put, List.setIfInBounds_toArray, List.set_cons_zero, List.set_cons_succ])
     rfl
    refine pure_ (i := 24) (N := some 53) (v := undef) (a' := ?_) NCb24 rfl rfl (any_of HT_.out (by kernel_rfl)) (fun _ _ _ h => h) (Or.inr ⟨by rfl, rfl⟩) ?_ ?_
    rotate_left
    ·(try simp only [Act.put, List.setIfInBounds_toArray, List.set_cons_zero, List.set_cons_succ])
     rfl
    refine pure_ (i := 25) (N := some 54) (v := ?_) (a' := ?_) NCb25 rfl rfl (any_of HT_.out (by kernel_rfl)) (fun _ _ _ h => h) (Or.inl ⟨by rfl, ?_⟩) ?_ ?_
    rotate_left
    ·intro w'
     go_simp
     with_reducible rfl
    rotate_left
    ·(try simp only [Act.put, List.setIfInBounds_toArray, List.set_cons_zero, List.set_cons_succ])
     rfl
    refine pure_ (i := 26) (N := some 55) (v := ?_) (a' := ?_) NCb26 rfl rfl (any_of HT_.out (by kernel_rfl)) (fun _ _ _ h => h) (Or.inl ⟨by rfl, ?_⟩) ?_ ?_
    rotate_left
    ·intro w'
     go_simp
     with_reducible rfl
    rotate_left
    ·(try simp only [Act.put, List.setIfInBounds_toArray, List.set_cons_zero, List.set_cons_succ])
     rfl
    refine pure_ (i := 27) (N := some 56) (v := undef) (a' := ?_) NCb27 rfl rfl (any_of HT_.out (by kernel_rfl)) (fun _ _ _ h => h) (Or.inr ⟨by rfl, rfl⟩) ?_ ?_
    rotate_left
    ·(try simp only [Act.put, List.setIfInBounds_toArray, List.set_cons_zero, List.set_cons_succ])
     rfl
    refine pure_ (i := 28) (N := some 57) (v := undef) (a' := ?_) NCb28 rfl rfl (any_of HT_.out (by kernel_rfl)) (fun _ _ _ h => h) (Or.inr ⟨by rfl, rfl⟩) ?_ ?_
    rotate_left
    ·(try simp only [Act.put, List.setIfInBounds_toArray, List.set_cons_zero, List.set_cons_succ])
     rfl
    refine pure_ (i := 29) (N := some 58) (v := undef) (a' := ?_) NCb29 rfl rfl (any_of HT_.out (by kernel_rfl)) (fun _ _ _ h => h) (Or.inr ⟨by rfl, rfl⟩) ?_ ?_
    rotate_left
    ·(try simp only [Act.put, List.setIfInBounds_toArray, List.set_cons_zero, List.set_cons_succ])
     rfl
    refine pure_ (i := 30) (N := some 59) (v := undef) (a' := ?_) NCb30 rfl rfl (any_of HT_.out (by kernel_rfl)) (fun _ _ _ h => h) (Or.inr ⟨by rfl, rfl⟩) ?_ ?_
    rotate_left
    ·(try simp only [Act.put, List.setIfInBounds_toArray, List.set_cons_zero, List.set_cons_succ])
     rfl
    refine pure_ (i := 31) (N := some 60) (v := ?_) (a' := ?_) NCb31 rfl rfl (any_of HT_.out (by kernel_rfl)) (fun _ _ _ h => h) (Or.inl ⟨by rfl, ?_⟩) ?_ ?_
    rotate_left
    ·intro w'
     go_simp
     with_reducible rfl
    rotate_left
    ·(try simp only [Act.put, List.setIfInBounds_toArray, List.set_cons_zero, List.set_cons_succ])
     rfl
    refine pure_ (i := 32) (N := some 61) (v := ?_) (a' := ?_) NCb32 rfl rfl (any_of HT_.out (by kernel_rfl)) (fun _ _ _ h => h) (Or.inl ⟨by rfl, ?_⟩) ?_ ?_
    rotate_left
    ·intro w'
     go_simp
     with_reducible rfl
    rotate_left
    ·(try simp only [Act.put, List.setIfInBounds_toArray, List.set_cons_zero, List.set_cons_succ])
     rfl
    refine pure_ (i := 33) (N := some 62) (v := undef) (a' := ?_) NCb33 rfl rfl (any_of HT_.out (by kernel_rfl)) (fun _ _ _ h => h) (Or.inr ⟨by rfl, rfl⟩) ?_ ?_
    rotate_left
    ·(try simp only [Act.put, List.setIfInBounds_toArray, List.set_cons_zero, List.set_cons_succ])
     rfl
    refine pure_ (i := 34) (N := some 63) (v := undef) (a' := ?_) NCb34 rfl rfl (any_of HT_.out (by kernel_rfl)) (fun _ _ _ h => h) (Or.inr ⟨by rfl, rfl⟩) ?_ ?_
    rotate_left
    ·(try simp only [Act.put, List.setIfInBounds_toArray, List.set_cons_zero, List.set_cons_succ])
     rfl
    refine pure_ (i := 35) (N := some 64) (v := undef) (a' := ?_) NCb35 rfl rfl (any_of HT_.out (by kernel_rfl)) (fun _ _ _ h => h) (Or.inr ⟨by rfl, rfl⟩) ?_ ?_
    rotate_left
    ·(try simp only [Act.put, List.setIfInBounds_toArray, List.set_cons_zero, List.set_cons_succ])
     rfl
    refine pure_ (i := 36) (N := some 65) (v := undef) (a' := ?_) NCb36 rfl rfl (any_of HT_.out (by kernel_rfl)) (fun _ _ _ h => h) (Or.inr ⟨by rfl, rfl⟩) ?_ ?_
    rotate_left
    ·(try simp only [Act.put, List.setIfInBounds_toArray, List.set_cons_zero, List.set_cons_succ])
     rfl
    refine pure_ (i := 37) (N := some 66) (v := ?_) (a' := ?_) NCb37 rfl rfl (any_of HT_.out (by kernel_rfl)) (fun _ _ _ h => h) (Or.inl ⟨by rfl, ?_⟩) ?_ ?_
    rotate_left
    ·intro w'
     go_simp
     with_reducible rfl
    rotate_left
    ·(try simp only [Act.put, List.setIfInBounds_toArray, List.set_cons_zero, List.set_cons_succ])
     rfl
    refine done_ (done_of HT_.out (by kernel_rfl)) ?_
    clear HT_ HW_
    have HE := hHeld.size
    have HBW := (KB1.out).trans (hHeld.mono KB1.out.size)
    clear hHeld HSS HX HD1 HS1 HP
    go_wp2_with fail
    go_ret
    exact ⟨by rw [HV.out]; rfl, HBW⟩

   have c2b := decide_eq_false c2
   by_cases c3 : 0 < j
   ·have c3b := decide_eq_true c3
    obtain ⟨p, hp⟩ : ∃ p, p = j - 1 := ⟨_, rfl⟩
    have hpw : wrap64 (j - 1) = p := by rw [hp]; unfold wrap64; omega
    have hpi : IntKind.i64.wrap (j - 1) = p := by rw [i64_w]; exact hpw
    have hp0 : 0 ≤ p := by omega
    have hp1 : p < (m : Int) := by omega
    have HPP := Lib.hid hp
    clear hp
    obtain ⟨ad3, hA3, hp2, _⟩ := at_T36 HC1.out p hp0 (by have := HJ.out; have := HM.out; omega)
    obtain rfl := Option.some.inj hA3
    have HP := Lib.hid hp2
    clear hA3 hp2
    by_cases c4 : x.f0 ≤ (rd_T36 l p).f0
    ·have c4b := decide_eq_true c4
     have HV := Lib.hid (show chkV nx l = 350 from if_neg (fun h => by have q := (h.2.2.2 k (by have := HJ.out; have := HM.out; omega)).2.2.1 (by have := HJ.out; have := HM.out; omega); rw [ckOf, ckOf, ← (show x = rd_T36 l (k : Int) by rw [HXK.out, HJ.out]), ← HJ.out, ← HPP.out] at q; omega))
     have HSS : Below w1.heap.size w1 w1.drew := below_drew (Below.refl _ _)
     refine start_ (n := 38) (S := fun w' => Below w1.heap.size w1 w') (ds := []) NCb0 (by kernel_rfl) rfl rfl (HSS) (fun hHeld => ?_); refine with_tabW chk.tab7 chk.bits7 (fun HT_ HW_ => ?_)
     refine pure_ (i := 0) (N := some 29) (v := ?_) (a' := ?_) NCb1 rfl rfl (any_of HT_.out (by kernel_rfl)) (fun _ _ _ h => h) (Or.inl ⟨by rfl, ?_⟩) ?_ ?_
     rotate_left
     ·intro w'
      go_simp
      with_reducible rfl
     rotate_left
     ·(try simp only [Act.put, List.setIfInBounds_toArray, List.set_cons_zero, List.set_cons_succ])
      rfl
     refine take_ (i := 1) (N := some 30) (v := ?_) (a' := ?_) NCb2 rfl rfl (take_ofW HT_.out HW_.out (by kernel_rfl)) (fun _ _ _ h => h) (Or.inl ⟨by rfl, ?_⟩) hHeld ?_ ?_
     rotate_left
     ·intro w' hS_
      have hx_ : w'.cell? ⟨wr.heap.size, 0, none⟩ = _ := blk_cell ((hS_.block _ (blk_lt HX.out)).trans HX.out) 0
      go_simp
      with_reducible rfl
     rotate_left
     ·(try simp only [Act.put, List.setIfInBounds_toArray, List.set_cons_zero, List.set_cons_succ])
      rfl
     refine pure_ (i := 2) (N := some 31) (v := ?_) (a' := ?_) NCb3 rfl rfl (any_of HT_.out (by kernel_rfl)) (fun _ _ _ h => h) (Or.inl ⟨by rfl, ?_⟩) ?_ ?_
     rotate_left
     ·intro w'
      go_simp
      with_reducible rfl
     rotate_left
     ·(try simp only [Act.put, List.setIfInBounds_toArray, List.set_cons_zero, List.set_cons_succ])
      rfl
     refine pure_ (i := 3) (N := some 32) (v := ?_) (a' := ?_) NCb4 rfl rfl (any_of HT_.out (by kernel_rfl)) (fun _ _ _ h => h) (Or.inl ⟨by rfl, ?_⟩) ?_ ?_
     rotate_left
     ·intro w'
      go_simp
      with_reducible rfl
     rotate_left
     ·(try simp only [Act.put, List.setIfInBounds_toArray, List.set_cons_zero, List.set_cons_succ])
      rfl
     refine pure_ (i := 4) (N := some 33) (v := ?_) (a' := ?_) NCb5 rfl rfl (any_of HT_.out (by kernel_rfl)) (fun _ _ _ h => h) (Or.inl ⟨by rfl, ?_⟩) ?_ ?_
     rotate_left
     ·intro w'
      go_simp
      with_reducible rfl
     rotate_left
     ·(try simp only [Act.put, List.setIfInBounds_toArray, List.set_cons_zero, List.set_cons_succ])
      rfl
     refine pure_ (i := 6) (N := some 35) (v := ?_) (a' := ?_) NCb38 rfl rfl (any_of HT_.out (by kernel_rfl)) (fun _ _ _ h => h) (Or.inl ⟨by rfl, ?_⟩) ?_ ?_
     rotate_left
     ·intro w'
      go_simp
      with_reducible rfl
     rotate_left
     ·(try simp only [Act.put, List.setIfInBounds_toArray, List.set_cons_zero, List.set_cons_succ])
      rfl
     refine take_ (i := 5) (N := some 34) (v := ?_) (a' := ?_) NCb6 rfl rfl (take_ofW HT_.out HW_.out (by kernel_rfl)) (fun _ _ _ h => h) (Or.inl ⟨by rfl, ?_⟩) hHeld ?_ ?_
     rotate_left
     ·intro w' hS_
      have hx_ : w'.cell? ⟨wr.heap.size, 0, none⟩ = _ := blk_cell ((hS_.block _ (blk_lt HX.out)).trans HX.out) 0
      go_simp
      with_reducible rfl
     rotate_left
     ·(try simp only [Act.put, List.setIfInBounds_toArray, List.set_cons_zero, List.set_cons_succ])
      rfl
     refine take_ (i := 7) (N := some 36) (v := ?_) (a' := ?_) NCb7 rfl rfl (take_ofW HT_.out HW_.out (by kernel_rfl)) (fun _ _ _ h => h) (Or.inl ⟨by rfl, ?_⟩) hHeld ?_ ?_
     rotate_left
     ·intro w' hS_
      have hx_ : w'.cell? ⟨w.heap.size, 0, none⟩ = _ := blk_cell ((hS_.block _ (blk_lt HD1.out)).trans HD1.out) 0
      go_simp
      with_reducible rfl
     rotate_left
     ·(try simp only [Act.put, List.setIfInBounds_toArray, List.set_cons_zero, List.set_cons_succ])
      rfl
     refine pure_ (i := 8) (N := some 37) (v := ?_) (a' := ?_) NCb8 rfl rfl (any_of HT_.out (by kernel_rfl)) (fun _ _ _ h => h) (Or.inl ⟨by rfl, ?_⟩) ?_ ?_
     rotate_left
     ·intro w'
      go_simp
      with_reducible rfl
     rotate_left
     ·(try simp only [Act.put, List.setIfInBounds_toArray, List.set_cons_zero, List.set_cons_succ])
      rfl
     refine pure_ (i := 9) (N := some 38) (v := ?_) (a' := ?_) NCb9 rfl rfl (any_of HT_.out (by kernel_rfl)) (fun _ _ _ h => h) (Or.inl ⟨by rfl, ?_⟩) ?_ ?_
     rotate_left
     ·intro w'
      go_simp
      with_reducible rfl
     rotate_left
     ·(try simp only [Act.put, List.setIfInBounds_toArray, List.set_cons_zero, List.set_cons_succ])
      rfl
     refine pure_ (i := 10) (N := some 39) (v := ?_) (a' := ?_) NCb10 rfl rfl (any_of HT_.out (by kernel_rfl)) (fun _ _ _ h => h) (Or.inl ⟨by rfl, ?_⟩) ?_ ?_
     rotate_left
     ·intro w'
      go_simp
      with_reducible rfl
     rotate_left
     ·(try simp only [Act.put, List.setIfInBounds_toArray, List.set_cons_zero, List.set_cons_succ])
      rfl
     refine pure_ (i := 11) (N := some 40) (v := ?_) (a' := ?_) NCb11 rfl rfl (any_of HT_.out (by kernel_rfl)) (fun _ _ _ h => h) (Or.inl ⟨by rfl, ?_⟩) ?_ ?_
     rotate_left
     ·intro w'
      go_simp
      with_reducible rfl
     rotate_left
     ·(try simp only [Act.put, List.setIfInBounds_toArray, List.set_cons_zero, List.set_cons_succ])
      rfl
     refine pure_ (i := 12) (N := some 41) (v := ?_) (a' := ?_) NCb12 rfl rfl (any_of HT_.out (by kernel_rfl)) (fun _ _ _ h => h) (Or.inl ⟨by rfl, ?_⟩) ?_ ?_
     rotate_left
     ·intro w'
      go_simp
      with_reducible rfl
     rotate_left
     ·(try simp only [Act.put, List.setIfInBounds_toArray, List.set_cons_zero, List.set_cons_succ])
      rfl
     refine pure_ (i := 13) (N := some 42) (v := ?_) (a' := ?_) NCb13 rfl rfl (any_of HT_.out (by kernel_rfl)) (fun _ _ _ h => h) (Or.inl ⟨by rfl, ?_⟩) ?_ ?_
     rotate_left
     ·intro w'
      go_simp
      with_reducible rfl
     rotate_left
     ·(try simp only [Act.put, List.setIfInBounds_toArray, List.set_cons_zero, List.set_cons_succ])
      rfl
     refine pure_ (i := 14) (N := some 43) (v := ?_) (a' := ?_) NCb14 rfl rfl (any_of HT_.out (by kernel_rfl)) (fun _ _ _ h => h) (Or.inl ⟨by rfl, ?_⟩) ?_ ?_
     rotate_left
     ·intro w'
      go_simp
      with_reducible rfl
     rotate_left
     ·(try simp only [Act.put, List.setIfInBounds_toArray, List.set_cons_zero, List.set_cons_succ])
      rfl
     refine pure_ (i := 16) (N := some 45) (v := ?_) (a' := ?_) NCb39 rfl rfl (any_of HT_.out (by kernel_rfl)) (fun _ _ _ h => h) (Or.inl ⟨by rfl, ?_⟩) ?_ ?_
     rotate_left
     ·intro w'
      go_simp
      with_reducible rfl
     rotate_left
     ·(try simp only [Act.put, List.setIfInBounds_toArray, List.set_cons_zero, List.set_cons_succ])
      rfl
     refine pure_ (i := 17) (N := some 46) (v := ?_) (a' := ?_) NCb40 rfl rfl (any_of HT_.out (by kernel_rfl)) (fun _ _ _ h => h) (Or.inl ⟨by rfl, ?_⟩) ?_ ?_
     rotate_left
     ·intro w'
      go_simp
      with_reducible rfl
     rotate_left
     ·(try simp only [Act.put, List.setIfInBounds_toArray, List.set_cons_zero, List.set_cons_succ])
      rfl
     refine pure_ (i := 21) (N := some 50) (v := ?_) (a' := ?_) NCb41 rfl rfl (any_of HT_.out (by kernel_rfl)) (fun _ _ _ h => h) (Or.inl ⟨by rfl, ?_⟩) ?_ ?_
     rotate_left
     ·intro w'
      go_simp
      with_reducible rfl
     rotate_left
     ·(try simp only [Act.put, List.setIfInBounds_toArray, List.set_cons_zero, List.set_cons_succ])
      rfl
     refine take_ (i := 15) (N := some 44) (v := ?_) (a' := ?_) NCb42 rfl rfl (take_ofW HT_.out HW_.out (by kernel_rfl)) (fun _ _ _ h => h) (Or.inl ⟨by rfl, ?_⟩) hHeld ?_ ?_
     rotate_left
     ·intro w' hS_
      have hx_ : w'.cell? ⟨w.heap.size, 1, none⟩ = _ := blk_cell ((hS_.block _ (blk_lt HD1.out)).trans HD1.out) 1
      go_simp
      with_reducible rfl
     rotate_left
     ·(try simp only [Act.put, List.setIfInBounds_toArray, List.set_cons_zero, List.set_cons_succ])
      rfl
     refine pure_ (i := 18) (N := some 47) (v := ?_) (a' := ?_) NCb43 rfl rfl (any_of HT_.out (by kernel_rfl)) (fun _ _ _ h => h) (Or.inl ⟨by rfl, ?_⟩) ?_ ?_
     rotate_left
     ·intro w'
      go_simp
      with_reducible rfl
     rotate_left
     ·(try simp only [Act.put, List.setIfInBounds_toArray, List.set_cons_zero, List.set_cons_succ])
      rfl
     refine pure_ (i := 19) (N := some 48) (v := ?_) (a' := ?_) NCb44 rfl rfl (any_of HT_.out (by kernel_rfl)) (fun _ _ _ h => h) (Or.inl ⟨by rfl, ?_⟩) ?_ ?_
     rotate_left
     ·intro w'
      go_simp
      with_reducible rfl
     rotate_left
     ·(try simp only [Act.put, List.setIfInBounds_toArray, List.set_cons_zero, List.set_cons_succ])
      rfl
     refine take_ (i := 20) (N := some 49) (v := ?_) (a' := ?_) NCb21 rfl rfl (take_ofW HT_.out HW_.out (by kernel_rfl)) (fun _ _ _ h => h) (Or.inl ⟨by rfl, ?_⟩) hHeld ?_ ?_
     rotate_left
     ·intro w' hS_
      have hx_ := (hS_.cell (World.block_lt_of_cell? _ _ HP.out)).trans HP.out
      go_simp
      with_reducible rfl
     rotate_left
     ·(try simp only [Act.put, List.setIfInBounds_toArray, List.set_cons_zero, List.set_cons_succ])
      rfl
     refine take_ (i := 22) (N := some 51) (v := ?_) (a' := ?_) NCb22 rfl rfl (take_ofW HT_.out HW_.out (by kernel_rfl)) (fun _ _ _ h => h) (Or.inl ⟨by rfl, ?_⟩) hHeld ?_ ?_
     rotate_left
     ·intro w' hS_
      have hx_ : w'.cell? ⟨wr.heap.size, 0, none⟩ = _ := blk_cell ((hS_.block _ (blk_lt HX.out)).trans HX.out) 0
      go_simp
      with_reducible rfl
     rotate_left
     ·(try simp only [Act.put, List.setIfInBounds_toArray, List.set_cons_zero, List.set_cons_succ])
      rfl
     refine pure_ (i := 23) (N := some 52) (v := ?_) (a' := ?_) NCb23 rfl rfl (any_of HT_.out (by kernel_rfl)) (fun _ _ _ h => h) (Or.inl ⟨by rfl, ?_⟩) ?_ ?_
     rotate_left
     ·intro w'
      go_simp
      with_reducible rfl
     rotate_left
     ·(try simp only [Act.put, List.setIfInBounds_toArray, List.set_cons_zero, List.set_cons_succ])
      rfl
     refine pure_ (i := 24) (N := some 53) (v := ?_) (a' := ?_) NCb24 rfl rfl (any_of HT_.out (by kernel_rfl)) (fun _ _ _ h => h) (Or.inl ⟨by rfl, ?_⟩) ?_ ?_
     rotate_left
     ·intro w'
      go_simp
      with_reducible rfl
     rotate_left
     ·(try simp only [Act.put, List.setIfInBounds_toArray, List.set_cons_zero, List.set_cons_succ])
      rfl
     refine pure_ (i := 25) (N := some 54) (v := ?_) (a' := ?_) NCb25 rfl rfl (any_of HT_.out (by kernel_rfl)) (fun _ _ _ h => h) (Or.inl ⟨by rfl, ?_⟩) ?_ ?_
     rotate_left
     ·intro w'
      go_simp
      with_reducible rfl
     rotate_left
     ·(try simp only [Act.put, List.setIfInBounds_toArray, List.set_cons_zero, List.set_cons_succ])
      rfl
     refine pure_ (i := 26) (N := some 55) (v := ?_) (a' := ?_) NCb26 rfl rfl (any_of HT_.out (by kernel_rfl)) (fun _ _ _ h => h) (Or.inl ⟨by rfl, ?_⟩) ?_ ?_
     rotate_left
     ·intro w'
      go_simp
      with_reducible rfl
     rotate_left
     ·(try simp only [Act.put, List.setIfInBounds_toArray, List.set_cons_zero, List.set_cons_succ])
      rfl
     refine pure_ (i := 27) (N := some 56) (v := undef) (a' := ?_) NCb27 rfl rfl (any_of HT_.out (by kernel_rfl)) (fun _ _ _ h => h) (Or.inr ⟨by rfl, rfl⟩) ?_ ?_
     rotate_left
     ·(try simp only [Act.put, List.setIfInBounds_toArray, List.set_cons_zero, List.set_cons_succ])
      rfl
     refine pure_ (i := 28) (N := some 57) (v := undef) (a' := ?_) NCb28 rfl rfl (any_of HT_.out (by kernel_rfl)) (fun _ _ _ h => h) (Or.inr ⟨by rfl, rfl⟩) ?_ ?_
     rotate_left
     ·(try simp only [Act.put, List.setIfInBounds_toArray, List.set_cons_zero, List.set_cons_succ])
      rfl
     refine pure_ (i := 29) (N := some 58) (v := undef) (a' := ?_) NCb29 rfl rfl (any_of HT_.out (by kernel_rfl)) (fun _ _ _ h => h) (Or.inr ⟨by rfl, rfl⟩) ?_ ?_
     rotate_left
     ·(try simp only [Act.put, List.setIfInBounds_toArray, List.set_cons_zero, List.set_cons_succ])
      rfl
     refine pure_ (i := 30) (N := some 59) (v := undef) (a' := ?_) NCb30 rfl rfl (any_of HT_.out (by kernel_rfl)) (fun _ _ _ h => h) (Or.inr ⟨by rfl, rfl⟩) ?_ ?_
     rotate_left
     ·(try simp only [Act.put, List.setIfInBounds_toArray, List.set_cons_zero, List.set_cons_succ])
      rfl
     refine pure_ (i := 31) (N := some 60) (v := ?_) (a' := ?_) NCb31 rfl rfl (any_of HT_.out (by kernel_rfl)) (fun _ _ _ h => h) (Or.inl ⟨by rfl, ?_⟩) ?_ ?_
     rotate_left
     ·intro w'
      go_simp
      with_reducible rfl
     rotate_left
     ·(try simp only [Act.put, List.setIfInBounds_toArray, List.set_cons_zero, List.set_cons_succ])
      rfl
     refine pure_ (i := 32) (N := some 61) (v := ?_) (a' := ?_) NCb32 rfl rfl (any_of HT_.out (by kernel_rfl)) (fun _ _ _ h => h) (Or.inl ⟨by rfl, ?_⟩) ?_ ?_
     rotate_left
     ·intro w'
      go_simp
      with_reducible rfl
     rotate_left
     ·(try simp only [Act.put, List.setIfInBounds_toArray, List.set_cons_zero, List.set_cons_succ])
      rfl
     refine pure_ (i := 33) (N := some 62) (v := undef) (a' := ?_) NCb33 rfl rfl (any_of HT_.out (by kernel_rfl)) (fun _ _ _ h => h) (Or.inr ⟨by rfl, rfl⟩) ?_ ?_
     rotate_left
     ·(try simp only [Act.put, List.setIfInBounds_toArray, List.set_cons_zero, List.set_cons_succ])
      rfl
     refine pure_ (i := 34) (N := some 63) (v := undef) (a' := ?_) NCb34 rfl rfl (any_of HT_.out (by kernel_rfl)) (fun _ _ _ h => h) (Or.inr ⟨by rfl, rfl⟩) ?_ ?_
     rotate_left
     ·(try simp only [Act.put, List.setIfInBounds_toArray, List.set_cons_zero, List.set_cons_succ])
      rfl
     refine pure_ (i := 35) (N := some 64) (v := undef) (a' := ?_) NCb35 rfl rfl (any_of HT_.out (by kernel_rfl)) (fun _ _ _ h => h) (Or.inr ⟨by rfl, rfl⟩) ?_ ?_
     rotate_left
     ·(try simp only [Act.put, List.setIfInBounds_toArray, List.set_cons_zero, List.set_cons_succ])
      rfl
     refine pure_ (i := 36) (N := some 65) (v := undef) (a' := ?_) NCb36 rfl rfl (any_of HT_.out (by kernel_rfl)) (fun _ _ _ h => h) (Or.inr ⟨by rfl, rfl⟩) ?_ ?_
     rotate_left
     ·(try simp only [Act.put, List.setIfInBounds_toArray, List.set_cons_zero, List.set_cons_succ])
      rfl
     refine pure_ (i := 37) (N := some 66) (v := ?_) (a' := ?_) NCb37 rfl rfl (any_of HT_.out (by kernel_rfl)) (fun _ _ _ h => h) (Or.inl ⟨by rfl, ?_⟩) ?_ ?_
     rotate_left
     ·intro w'
      go_simp
      with_reducible rfl
     rotate_left
     ·(try simp only [Act.put, List.setIfInBounds_toArray, List.set_cons_zero, List.set_cons_succ])
      rfl
     refine done_ (done_of HT_.out (by kernel_rfl)) ?_
     clear HT_ HW_
     have HE := hHeld.size
     have HBW := (KB1.out).trans (hHeld.mono KB1.out.size)
     clear hHeld HSS HX HD1 HS1 HP
     go_wp2_with fail
     go_ret
     exact ⟨by rw [HV.out]; rfl, HBW⟩

    have c4b := decide_eq_false c4
    by_cases c5 : 1 ≤ x.f1 ∧ x.f1 ≤ 20
    ·have HTH := Lib.hid (show notify_thread.f x.f1 = some true by unfold notify_thread.f; rw [if_pos c5.1, decide_eq_true c5.2])
     have HWF := Lib.hid (wf64 (k := x.f1) (by omega) (by omega))
     by_cases c6 : seen l k x.f1 = true
     ·have HV := Lib.hid (show chkV nx l = 350 from if_neg (fun h => by have q := (h.2.2.2 k (by have := HJ.out; have := HM.out; omega)).2.2.2.2.2; rw [tidOf, ← (show x = rd_T36 l (k : Int) by rw [HXK.out, HJ.out])] at q; exact absurd (c6.symm.trans q) (by decide)))
      have HSS : Below w1.heap.size w1 w1.drew := below_drew (Below.refl _ _)
      refine start_ (n := 38) (S := fun w' => Below w1.heap.size w1 w') (ds := []) NCb0 (by kernel_rfl) rfl rfl (HSS) (fun hHeld => ?_); refine with_tabW chk.tab7 chk.bits7 (fun HT_ HW_ => ?_)
      refine pure_ (i := 0) (N := some 29) (v := ?_) (a' := ?_) NCb1 rfl rfl (any_of HT_.out (by kernel_rfl)) (fun _ _ _ h => h) (Or.inl ⟨by rfl, ?_⟩) ?_ ?_
      rotate_left
      ·intro w'
       go_simp
       with_reducible rfl
      rotate_left
      ·(try simp only [Act.put, List.setIfInBounds_toArray, List.set_cons_zero, List.set_cons_succ])
       rfl
      refine take_ (i := 1) (N := some 30) (v := ?_) (a' := ?_) NCb2 rfl rfl (take_ofW HT_.out HW_.out (by kernel_rfl)) (fun _ _ _ h => h) (Or.inl ⟨by rfl, ?_⟩) hHeld ?_ ?_
      rotate_left
      ·intro w' hS_
       have hx_ : w'.cell? ⟨wr.heap.size, 0, none⟩ = _ := blk_cell ((hS_.block _ (blk_lt HX.out)).trans HX.out) 0
       go_simp
       with_reducible rfl
      rotate_left
      ·(try simp only [Act.put, List.setIfInBounds_toArray, List.set_cons_zero, List.set_cons_succ])
       rfl
      refine pure_ (i := 2) (N := some 31) (v := ?_) (a' := ?_) NCb3 rfl rfl (any_of HT_.out (by kernel_rfl)) (fun _ _ _ h => h) (Or.inl ⟨by rfl, ?_⟩) ?_ ?_
      rotate_left
      ·intro w'
       go_simp
       with_reducible rfl
      rotate_left
      ·(try simp only [Act.put, List.setIfInBounds_toArray, List.set_cons_zero, List.set_cons_succ])
       rfl
      refine pure_ (i := 3) (N := some 32) (v := ?_) (a' := ?_) NCb4 rfl rfl (any_of HT_.out (by kernel_rfl)) (fun _ _ _ h => h) (Or.inl ⟨by rfl, ?_⟩) ?_ ?_
      rotate_left
      ·intro w'
       go_simp
       with_reducible rfl
      rotate_left
      ·(try simp only [Act.put, List.setIfInBounds_toArray, List.set_cons_zero, List.set_cons_succ])
       rfl
      refine pure_ (i := 4) (N := some 33) (v := ?_) (a' := ?_) NCb5 rfl rfl (any_of HT_.out (by kernel_rfl)) (fun _ _ _ h => h) (Or.inl ⟨by rfl, ?_⟩) ?_ ?_
      rotate_left
      ·intro w'
       go_simp
       with_reducible rfl
      rotate_left
      ·(try simp only [Act.put, List.setIfInBounds_toArray, List.set_cons_zero, List.set_cons_succ])
       rfl
      refine pure_ (i := 6) (N := some 35) (v := ?_) (a' := ?_) NCb38 rfl rfl (any_of HT_.out (by kernel_rfl)) (fun _ _ _ h => h) (Or.inl ⟨by rfl, ?_⟩) ?_ ?_
      rotate_left
      ·intro w'
       go_simp
       with_reducible rfl
      rotate_left
      ·(try simp only [Act.put, List.setIfInBounds_toArray, List.set_cons_zero, List.set_cons_succ])
       rfl
      refine take_ (i := 5) (N := some 34) (v := ?_) (a' := ?_) NCb6 rfl rfl (take_ofW HT_.out HW_.out (by kernel_rfl)) (fun _ _ _ h => h) (Or.inl ⟨by rfl, ?_⟩) hHeld ?_ ?_
      rotate_left
      ·intro w' hS_
       have hx_ : w'.cell? ⟨wr.heap.size, 0, none⟩ = _ := blk_cell ((hS_.block _ (blk_lt HX.out)).trans HX.out) 0
       go_simp
       with_reducible rfl
      rotate_left
      ·(try simp only [Act.put, List.setIfInBounds_toArray, List.set_cons_zero, List.set_cons_succ])
       rfl
      refine take_ (i := 7) (N := some 36) (v := ?_) (a' := ?_) NCb7 rfl rfl (take_ofW HT_.out HW_.out (by kernel_rfl)) (fun _ _ _ h => h) (Or.inl ⟨by rfl, ?_⟩) hHeld ?_ ?_
      rotate_left
      ·intro w' hS_
       have hx_ : w'.cell? ⟨w.heap.size, 0, none⟩ = _ := blk_cell ((hS_.block _ (blk_lt HD1.out)).trans HD1.out) 0
       go_simp
       with_reducible rfl
      rotate_left
      ·(try simp only [Act.put, List.setIfInBounds_toArray, List.set_cons_zero, List.set_cons_succ])
       rfl
      refine pure_ (i := 8) (N := some 37) (v := ?_) (a' := ?_) NCb8 rfl rfl (any_of HT_.out (by kernel_rfl)) (fun _ _ _ h => h) (Or.inl ⟨by rfl, ?_⟩) ?_ ?_
      rotate_left
      ·intro w'
       go_simp
       with_reducible rfl
      rotate_left
      ·(try simp only [Act.put, List.setIfInBounds_toArray, List.set_cons_zero, List.set_cons_succ])
       rfl
      refine pure_ (i := 9) (N := some 38) (v := ?_) (a' := ?_) NCb9 rfl rfl (any_of HT_.out (by kernel_rfl)) (fun _ _ _ h => h) (Or.inl ⟨by rfl, ?_⟩) ?_ ?_
      rotate_left
      ·intro w'
       go_simp
       with_reducible rfl
      rotate_left
      ·(try simp only [Act.put, List.setIfInBounds_toArray, List.set_cons_zero, List.set_cons_succ])
       rfl
      refine pure_ (i := 10) (N := some 39) (v := ?_) (a' := ?_) NCb10 rfl rfl (any_of HT_.out (by kernel_rfl)) (fun _ _ _ h => h) (Or.inl ⟨by rfl, ?_⟩) ?_ ?_
      rotate_left
      ·intro w'
       go_simp
       with_reducible rfl
      rotate_left
      ·(try simp only [Act.put, List.setIfInBounds_toArray, List.set_cons_zero, List.set_cons_succ])
       rfl
      refine pure_ (i := 11) (N := some 40) (v := ?_) (a' := ?_) NCb11 rfl rfl (any_of HT_.out (by kernel_rfl)) (fun _ _ _ h => h) (Or.inl ⟨by rfl, ?_⟩) ?_ ?_
      rotate_left
      ·intro w'
       go_simp
       with_reducible rfl
      rotate_left
      ·(try simp only [Act.put, List.setIfInBounds_toArray, List.set_cons_zero, List.set_cons_succ])
       rfl
      refine pure_ (i := 12) (N := some 41) (v := ?_) (a' := ?_) NCb12 rfl rfl (any_of HT_.out (by kernel_rfl)) (fun _ _ _ h => h) (Or.inl ⟨by rfl, ?_⟩) ?_ ?_
      rotate_left
      ·intro w'
       go_simp
       with_reducible rfl
      rotate_left
      ·(try simp only [Act.put, List.setIfInBounds_toArray, List.set_cons_zero, List.set_cons_succ])
       rfl
      refine pure_ (i := 13) (N := some 42) (v := ?_) (a' := ?_) NCb13 rfl rfl (any_of HT_.out (by kernel_rfl)) (fun _ _ _ h => h) (Or.inl ⟨by rfl, ?_⟩) ?_ ?_
      rotate_left
      ·intro w'
       go_simp
       with_reducible rfl
      rotate_left
      ·(try simp only [Act.put, List.setIfInBounds_toArray, List.set_cons_zero, List.set_cons_succ])
       rfl
      refine pure_ (i := 14) (N := some 43) (v := ?_) (a' := ?_) NCb14 rfl rfl (any_of HT_.out (by kernel_rfl)) (fun _ _ _ h => h) (Or.inl ⟨by rfl, ?_⟩) ?_ ?_
      rotate_left
      ·intro w'
       go_simp
       with_reducible rfl
      rotate_left
      ·(try simp only [Act.put, List.setIfInBounds_toArray, List.set_cons_zero, List.set_cons_succ])
       rfl
      refine pure_ (i := 16) (N := some 45) (v := ?_) (a' := ?_) NCb39 rfl rfl (any_of HT_.out (by kernel_rfl)) (fun _ _ _ h => h) (Or.inl ⟨by rfl, ?_⟩) ?_ ?_
      rotate_left
      ·intro w'
       go_simp
       with_reducible rfl
      rotate_left
      ·(try simp only [Act.put, List.setIfInBounds_toArray, List.set_cons_zero, List.set_cons_succ])
       rfl
      refine pure_ (i := 17) (N := some 46) (v := ?_) (a' := ?_) NCb40 rfl rfl (any_of HT_.out (by kernel_rfl)) (fun _ _ _ h => h) (Or.inl ⟨by rfl, ?_⟩) ?_ ?_
      rotate_left
      ·intro w'
       go_simp
       with_reducible rfl
      rotate_left
      ·(try simp only [Act.put, List.setIfInBounds_toArray, List.set_cons_zero, List.set_cons_succ])
       rfl
      refine pure_ (i := 21) (N := some 50) (v := ?_) (a' := ?_) NCb41 rfl rfl (any_of HT_.out (by kernel_rfl)) (fun _ _ _ h => h) (Or.inl ⟨by rfl, ?_⟩) ?_ ?_
      rotate_left
      ·intro w'
       go_simp
       with_reducible rfl
      rotate_left
      ·(try simp only [Act.put, List.setIfInBounds_toArray, List.set_cons_zero, List.set_cons_succ])
       rfl
      refine take_ (i := 15) (N := some 44) (v := ?_) (a' := ?_) NCb42 rfl rfl (take_ofW HT_.out HW_.out (by kernel_rfl)) (fun _ _ _ h => h) (Or.inl ⟨by rfl, ?_⟩) hHeld ?_ ?_
      rotate_left
      ·intro w' hS_
       have hx_ : w'.cell? ⟨w.heap.size, 1, none⟩ = _ := blk_cell ((hS_.block _ (blk_lt HD1.out)).trans HD1.out) 1
       go_simp
       with_reducible rfl
      rotate_left
      ·(try simp only [Act.put, List.setIfInBounds_toArray, List.set_cons_zero, List.set_cons_succ])
       rfl
      refine pure_ (i := 18) (N := some 47) (v := ?_) (a' := ?_) NCb43 rfl rfl (any_of HT_.out (by kernel_rfl)) (fun _ _ _ h => h) (Or.inl ⟨by rfl, ?_⟩) ?_ ?_
      rotate_left
      ·intro w'
       go_simp
       with_reducible rfl
      rotate_left
      ·(try simp only [Act.put, List.setIfInBounds_toArray, List.set_cons_zero, List.set_cons_succ])
       rfl
      refine pure_ (i := 19) (N := some 48) (v := ?_) (a' := ?_) NCb44 rfl rfl (any_of HT_.out (by kernel_rfl)) (fun _ _ _ h => h) (Or.inl ⟨by rfl, ?_⟩) ?_ ?_
      rotate_left
      ·intro w'
       go_simp
       with_reducible rfl
      rotate_left
      ·(try simp only [Act.put, List.setIfInBounds_toArray, List.set_cons_zero, List.set_cons_succ])
       rfl
      refine take_ (i := 20) (N := some 49) (v := ?_) (a' := ?_) NCb21 rfl rfl (take_ofW HT_.out HW_.out (by kernel_rfl)) (fun _ _ _ h => h) (Or.inl ⟨by rfl, ?_⟩) hHeld ?_ ?_
      rotate_left
      ·intro w' hS_
       have hx_ := (hS_.cell (World.block_lt_of_cell? _ _ HP.out)).trans HP.out
       go_simp
       with_reducible rfl
      rotate_left
      ·(try simp only [Act.put, List.setIfInBounds_toArray, List.set_cons_zero, List.set_cons_succ])
       rfl
      refine take_ (i := 22) (N := some 51) (v := ?_) (a' := ?_) NCb22 rfl rfl (take_ofW HT_.out HW_.out (by kernel_rfl)) (fun _ _ _ h => h) (Or.inl ⟨by rfl, ?_⟩) hHeld ?_ ?_
      rotate_left
      ·intro w' hS_
       have hx_ : w'.cell? ⟨wr.heap.size, 0, none⟩ = _ := blk_cell ((hS_.block _ (blk_lt HX.out)).trans HX.out) 0
       go_simp
       with_reducible rfl
      rotate_left
      ·(try simp only [Act.put, List.setIfInBounds_toArray, List.set_cons_zero, List.set_cons_succ])
       rfl
      refine pure_ (i := 23) (N := some 52) (v := ?_) (a' := ?_) NCb23 rfl rfl (any_of HT_.out (by kernel_rfl)) (fun _ _ _ h => h) (Or.inl ⟨by rfl, ?_⟩) ?_ ?_
      rotate_left
      ·intro w'
       go_simp
       with_reducible rfl
      rotate_left
      ·(try simp only [Act.put, List.setIfInBounds_toArray, List.set_cons_zero, List.set_cons_succ])
       rfl
      refine pure_ (i := 24) (N := some 53) (v := ?_) (a' := ?_) NCb24 rfl rfl (any_of HT_.out (by kernel_rfl)) (fun _ _ _ h => h) (Or.inl ⟨by rfl, ?_⟩) ?_ ?_
      rotate_left
      ·intro w'
       go_simp
       with_reducible rfl
      rotate_left
      ·(try simp only [Act.put, List.setIfInBounds_toArray, List.set_cons_zero, List.set_cons_succ])
       rfl
      refine pure_ (i := 25) (N := some 54) (v := ?_) (a' := ?_) NCb25 rfl rfl (any_of HT_.out (by kernel_rfl)) (fun _ _ _ h => h) (Or.inl ⟨by rfl, ?_⟩) ?_ ?_
      rotate_left
      ·intro w'
       go_simp
       with_reducible rfl
      rotate_left
      ·(try simp only [Act.put, List.setIfInBounds_toArray, List.set_cons_zero, List.set_cons_succ])
       rfl
      refine pure_ (i := 26) (N := some 55) (v := ?_) (a' := ?_) NCb26 rfl rfl (any_of HT_.out (by kernel_rfl)) (fun _ _ _ h => h) (Or.inl ⟨by rfl, ?_⟩) ?_ ?_
      rotate_left
      ·intro w'
       go_simp
       with_reducible rfl
      rotate_left
      ·(try simp only [Act.put, List.setIfInBounds_toArray, List.set_cons_zero, List.set_cons_succ])
       rfl
      refine pure_ (i := 27) (N := some 56) (v := ?_) (a' := ?_) NCb27 rfl rfl (any_of HT_.out (by kernel_rfl)) (fun _ _ _ h => h) (Or.inl ⟨by rfl, ?_⟩) ?_ ?_
      rotate_left
      ·intro w'
       go_simp
       with_reducible rfl
      rotate_left
      ·(try simp only [Act.put, List.setIfInBounds_toArray, List.set_cons_zero, List.set_cons_succ])
       rfl
      refine take_ (i := 28) (N := some 57) (v := ?_) (a' := ?_) NCb28 rfl rfl (take_ofW HT_.out HW_.out (by kernel_rfl)) (fun _ _ _ h => h) (Or.inl ⟨by rfl, ?_⟩) hHeld ?_ ?_
      rotate_left
      ·intro w' hS_
       have hx_ : w'.cell? ⟨wr.heap.size, 1, none⟩ = _ := blk_cell ((hS_.block _ (blk_lt HX.out)).trans HX.out) 1
       go_simp
       with_reducible rfl
      rotate_left
      ·(try simp only [Act.put, List.setIfInBounds_toArray, List.set_cons_zero, List.set_cons_succ])
       rfl
      refine one_ (i := 29) (N := some 58) NCb29 rfl rfl (one_of HT_.out (by kernel_rfl)) (by decide) (fun K hK => ?_)
      refine goes_ Tryd.func27 (by kernel_rfl) rfl #[.int .i64 x.f1] (by rfl) rfl rfl (by (try simp only [List.map_toArray, List.map_cons, List.map_nil]); first | done | rfl) ?_
      refine (notify_thread.calls x.f1 true _ HTH.out).mono ?_
      rintro e w9 ⟨rfl, hb⟩
      refine ⟨_, rfl, ?_⟩
      have HN := hHeld.trans (hb.below.mono hHeld.size)
      clear hb
      clear hHeld
      refine hK.out _ _ (HN) (fun hHeld => ?_)
      clear hK K
      refine norm_ (a' := ?_) ?_ ?_
      rotate_left
      ·show Act.put _ (some 58) _ = _
       (try simp only [Act.put, List.setIfInBounds_toArray, List.set_cons_zero, List.set_cons_succ])
       rfl
      refine pure_ (i := 30) (N := some 59) (v := ?_) (a' := ?_) NCb30 rfl rfl (any_of HT_.out (by kernel_rfl)) (fun _ _ _ h => h) (Or.inl ⟨by rfl, ?_⟩) ?_ ?_
      rotate_left
      ·intro w'
       go_simp
       with_reducible rfl
      rotate_left
      ·(try simp only [Act.put, List.setIfInBounds_toArray, List.set_cons_zero, List.set_cons_succ])
       rfl
      refine pure_ (i := 31) (N := some 60) (v := ?_) (a' := ?_) NCb31 rfl rfl (any_of HT_.out (by kernel_rfl)) (fun _ _ _ h => h) (Or.inl ⟨by rfl, ?_⟩) ?_ ?_
      rotate_left
      ·intro w'
       go_simp
       with_reducible rfl
      rotate_left
      ·(try simp only [Act.put, List.setIfInBounds_toArray, List.set_cons_zero, List.set_cons_succ])
       rfl
      refine pure_ (i := 32) (N := some 61) (v := ?_) (a' := ?_) NCb32 rfl rfl (any_of HT_.out (by kernel_rfl)) (fun _ _ _ h => h) (Or.inl ⟨by rfl, ?_⟩) ?_ ?_
      rotate_left
      ·intro w'
       go_simp
       with_reducible rfl
      rotate_left
      ·(try simp only [Act.put, List.setIfInBounds_toArray, List.set_cons_zero, List.set_cons_succ])
       rfl
      refine pure_ (i := 33) (N := some 62) (v := ?_) (a' := ?_) NCb33 rfl rfl (any_of HT_.out (by kernel_rfl)) (fun _ _ _ h => h) (Or.inl ⟨by rfl, ?_⟩) ?_ ?_
      rotate_left
      ·intro w'
       go_simp
       with_reducible rfl
      rotate_left
      ·(try simp only [Act.put, List.setIfInBounds_toArray, List.set_cons_zero, List.set_cons_succ])
       rfl
      refine pure_ (i := 34) (N := some 63) (v := ?_) (a' := ?_) NCb34 rfl rfl (any_of HT_.out (by kernel_rfl)) (fun _ _ _ h => h) (Or.inl ⟨by rfl, ?_⟩) ?_ ?_
      rotate_left
      ·intro w'
       go_simp
       with_reducible rfl
      rotate_left
      ·(try simp only [Act.put, List.setIfInBounds_toArray, List.set_cons_zero, List.set_cons_succ])
       rfl
      refine take_ (i := 35) (N := some 64) (v := ?_) (a' := ?_) NCb35 rfl rfl (take_ofW HT_.out HW_.out (by kernel_rfl)) (fun _ _ _ h => h) (Or.inl ⟨by rfl, ?_⟩) hHeld ?_ ?_
      rotate_left
      ·intro w' hS_
       have hx_ : w'.cell? ⟨wr.heap.size, 1, none⟩ = _ := blk_cell ((hS_.block _ (blk_lt HX.out)).trans HX.out) 1
       go_simp
       with_reducible rfl
      rotate_left
      ·(try simp only [Act.put, List.setIfInBounds_toArray, List.set_cons_zero, List.set_cons_succ])
       rfl
      refine take_ (i := 36) (N := some 65) (v := ?_) (a' := ?_) NCb36 rfl rfl (take_ofW HT_.out HW_.out (by kernel_rfl)) (fun _ _ _ h => h) (Or.inl ⟨by rfl, ?_⟩) hHeld ?_ ?_
      rotate_left
      ·intro w' hS_
       have hx_ := (HS1.out.below hS_ HS1.out.lt).lookup HWF.out
       go_simp
       with_reducible rfl
      rotate_left
      ·(try simp only [Act.put, List.setIfInBounds_toArray, List.set_cons_zero, List.set_cons_succ])
       rfl
      refine pure_ (i := 37) (N := some 66) (v := ?_) (a' := ?_) NCb37 rfl rfl (any_of HT_.out (by kernel_rfl)) (fun _ _ _ h => h) (Or.inl ⟨by rfl, ?_⟩) ?_ ?_
      rotate_left
      ·intro w'
       go_simp
       with_reducible rfl
      rotate_left
      ·(try simp only [Act.put, List.setIfInBounds_toArray, List.set_cons_zero, List.set_cons_succ])
       rfl
      refine done_ (done_of HT_.out (by kernel_rfl)) ?_
      clear HT_ HW_
      have HE := hHeld.size
      have HBW := (KB1.out).trans (hHeld.mono KB1.out.size)
      clear hHeld HSS HX HD1 HS1 HP
      go_wp2_with fail
      go_ret
      exact ⟨by rw [HV.out]; rfl, HBW⟩
     ·have c6' := Bool.eq_false_iff.2 c6
      have HOK := Lib.hid (show okAt nx l k from ⟨by rw [ckOf, ← (show x = rd_T36 l (k : Int) by rw [HXK.out, HJ.out])]; omega, by rw [ckOf, ← (show x = rd_T36 l (k : Int) by rw [HXK.out, HJ.out])]; omega, (fun _ => by rw [ckOf, ckOf, ← (show x = rd_T36 l (k : Int) by rw [HXK.out, HJ.out]), ← HJ.out]; exact (by rw [← HPP.out]; omega)), by rw [tidOf, ← (show x = rd_T36 l (k : Int) by rw [HXK.out, HJ.out])]; exact c5.1, by rw [tidOf, ← (show x = rd_T36 l (k : Int) by rw [HXK.out, HJ.out])]; exact c5.2, by rw [tidOf, ← (show x = rd_T36 l (k : Int) by rw [HXK.out, HJ.out])]; exact c6'⟩)
      have HSS : Below w1.heap.size w1 w1.drew := below_drew (Below.refl _ _)
      refine start_ (n := 38) (S := fun w' => Below w1.heap.size w1 w') (ds := []) NCb0 (by kernel_rfl) rfl rfl (HSS) (fun hHeld => ?_); refine with_tabW chk.tab7 chk.bits7 (fun HT_ HW_ => ?_)
      refine pure_ (i := 0) (N := some 29) (v := ?_) (a' := ?_) NCb1 rfl rfl (any_of HT_.out (by kernel_rfl)) (fun _ _ _ h => h) (Or.inl ⟨by rfl, ?_⟩) ?_ ?_
      rotate_left
      ·intro w'
       go_simp
       with_reducible rfl
      rotate_left
      ·(try simp only [Act.put, List.setIfInBounds_toArray, List.set_cons_zero, List.set_cons_succ])
       rfl
      refine take_ (i := 1) (N := some 30) (v := ?_) (a' := ?_) NCb2 rfl rfl (take_ofW HT_.out HW_.out (by kernel_rfl)) (fun _ _ _ h => h) (Or.inl ⟨by rfl, ?_⟩) hHeld ?_ ?_
      rotate_left
      ·intro w' hS_
       have hx_ : w'.cell? ⟨wr.heap.size, 0, none⟩ = _ := blk_cell ((hS_.block _ (blk_lt HX.out)).trans HX.out) 0
       go_simp
       with_reducible rfl
      rotate_left
      ·(try simp only [Act.put, List.setIfInBounds_toArray, List.set_cons_zero, List.set_cons_succ])
       rfl
      refine pure_ (i := 2) (N := some 31) (v := ?_) (a' := ?_) NCb3 rfl rfl (any_of HT_.out (by kernel_rfl)) (fun _ _ _ h => h) (Or.inl ⟨by rfl, ?_⟩) ?_ ?_
      rotate_left
      ·intro w'
       go_simp
       with_reducible rfl
      rotate_left
      ·(try simp only [Act.put, List.setIfInBounds_toArray, List.set_cons_zero, List.set_cons_succ])
       rfl
      refine pure_ (i := 3) (N := some 32) (v := ?_) (a' := ?_) NCb4 rfl rfl (any_of HT_.out (by kernel_rfl)) (fun _ _ _ h => h) (Or.inl ⟨by rfl, ?_⟩) ?_ ?_
      rotate_left
      ·intro w'
       go_simp
       with_reducible rfl
      rotate_left
      ·(try simp only [Act.put, List.setIfInBounds_toArray, List.set_cons_zero, List.set_cons_succ])
       rfl
      refine pure_ (i := 4) (N := some 33) (v := ?_) (a' := ?_) NCb5 rfl rfl (any_of HT_.out (by kernel_rfl)) (fun _ _ _ h => h) (Or.inl ⟨by rfl, ?_⟩) ?_ ?_
      rotate_left
      ·intro w'
       go_simp
       with_reducible rfl
      rotate_left
      ·(try simp only [Act.put, List.setIfInBounds_toArray, List.set_cons_zero, List.set_cons_succ])
       rfl
      refine pure_ (i := 6) (N := some 35) (v := ?_) (a' := ?_) NCb38 rfl rfl (any_of HT_.out (by kernel_rfl)) (fun _ _ _ h => h) (Or.inl ⟨by rfl, ?_⟩) ?_ ?_
      rotate_left
      ·intro w'
       go_simp
       with_reducible rfl
      rotate_left
      ·(try simp only [Act.put, List.setIfInBounds_toArray, List.set_cons_zero, List.set_cons_succ])
       rfl
      refine take_ (i := 5) (N := some 34) (v := ?_) (a' := ?_) NCb6 rfl rfl (take_ofW HT_.out HW_.out (by kernel_rfl)) (fun _ _ _ h => h) (Or.inl ⟨by rfl, ?_⟩) hHeld ?_ ?_
      rotate_left
      ·intro w' hS_
       have hx_ : w'.cell? ⟨wr.heap.size, 0, none⟩ = _ := blk_cell ((hS_.block _ (blk_lt HX.out)).trans HX.out) 0
       go_simp
       with_reducible rfl
      rotate_left
      ·(try simp only [Act.put, List.setIfInBounds_toArray, List.set_cons_zero, List.set_cons_succ])
       rfl
      refine take_ (i := 7) (N := some 36) (v := ?_) (a' := ?_) NCb7 rfl rfl (take_ofW HT_.out HW_.out (by kernel_rfl)) (fun _ _ _ h => h) (Or.inl ⟨by rfl, ?_⟩) hHeld ?_ ?_
      rotate_left
      ·intro w' hS_
       have hx_ : w'.cell? ⟨w.heap.size, 0, none⟩ = _ := blk_cell ((hS_.block _ (blk_lt HD1.out)).trans HD1.out) 0
       go_simp
       with_reducible rfl
      rotate_left
      ·(try simp only [Act.put, List.setIfInBounds_toArray, List.set_cons_zero, List.set_cons_succ])
       rfl
      refine pure_ (i := 8) (N := some 37) (v := ?_) (a' := ?_) NCb8 rfl rfl (any_of HT_.out (by kernel_rfl)) (fun _ _ _ h => h) (Or.inl ⟨by rfl, ?_⟩) ?_ ?_
      rotate_left
      ·intro w'
       go_simp
       with_reducible rfl
      rotate_left
      ·(try simp only [Act.put, List.setIfInBounds_toArray, List.set_cons_zero, List.set_cons_succ])
       rfl
      refine pure_ (i := 9) (N := some 38) (v := ?_) (a' := ?_) NCb9 rfl rfl (any_of HT_.out (by kernel_rfl)) (fun _ _ _ h => h) (Or.inl ⟨by rfl, ?_⟩) ?_ ?_
      rotate_left
      ·intro w'
       go_simp
       with_reducible rfl
      rotate_left
      ·(try simp only [Act.put, List.setIfInBounds_toArray, List.set_cons_zero, List.set_cons_succ])
       rfl
      refine pure_ (i := 10) (N := some 39) (v := ?_) (a' := ?_) NCb10 rfl rfl (any_of HT_.out (by kernel_rfl)) (fun _ _ _ h => h) (Or.inl ⟨by rfl, ?_⟩) ?_ ?_
      rotate_left
      ·intro w'
       go_simp
       with_reducible rfl
      rotate_left
      ·(try simp only [Act.put, List.setIfInBounds_toArray, List.set_cons_zero, List.set_cons_succ])
       rfl
      refine pure_ (i := 11) (N := some 40) (v := ?_) (a' := ?_) NCb11 rfl rfl (any_of HT_.out (by kernel_rfl)) (fun _ _ _ h => h) (Or.inl ⟨by rfl, ?_⟩) ?_ ?_
      rotate_left
      ·intro w'
       go_simp
       with_reducible rfl
      rotate_left
      ·(try simp only [Act.put, List.setIfInBounds_toArray, List.set_cons_zero, List.set_cons_succ])
       rfl
      refine pure_ (i := 12) (N := some 41) (v := ?_) (a' := ?_) NCb12 rfl rfl (any_of HT_.out (by kernel_rfl)) (fun _ _ _ h => h) (Or.inl ⟨by rfl, ?_⟩) ?_ ?_
      rotate_left
      ·intro w'
       go_simp
       with_reducible rfl
      rotate_left
      ·(try simp only [Act.put, List.setIfInBounds_toArray, List.set_cons_zero, List.set_cons_succ])
       rfl
      refine pure_ (i := 13) (N := some 42) (v := ?_) (a' := ?_) NCb13 rfl rfl (any_of HT_.out (by kernel_rfl)) (fun _ _ _ h => h) (Or.inl ⟨by rfl, ?_⟩) ?_ ?_
      rotate_left
      ·intro w'
       go_simp
       with_reducible rfl
      rotate_left
      ·(try simp only [Act.put, List.setIfInBounds_toArray, List.set_cons_zero, List.set_cons_succ])
       rfl
      refine pure_ (i := 14) (N := some 43) (v := ?_) (a' := ?_) NCb14 rfl rfl (any_of HT_.out (by kernel_rfl)) (fun _ _ _ h => h) (Or.inl ⟨by rfl, ?_⟩) ?_ ?_
      rotate_left
      ·intro w'
       go_simp
       with_reducible rfl
      rotate_left
      ·(try simp only [Act.put, List.setIfInBounds_toArray, List.set_cons_zero, List.set_cons_succ])
       rfl
      refine pure_ (i := 16) (N := some 45) (v := ?_) (a' := ?_) NCb39 rfl rfl (any_of HT_.out (by kernel_rfl)) (fun _ _ _ h => h) (Or.inl ⟨by rfl, ?_⟩) ?_ ?_
      rotate_left
      ·intro w'
       go_simp
       with_reducible rfl
      rotate_left
      ·(try simp only [Act.put, List.setIfInBounds_toArray, List.set_cons_zero, List.set_cons_succ])
       rfl
      refine pure_ (i := 17) (N := some 46) (v := ?_) (a' := ?_) NCb40 rfl rfl (any_of HT_.out (by kernel_rfl)) (fun _ _ _ h => h) (Or.inl ⟨by rfl, ?_⟩) ?_ ?_
      rotate_left
      ·intro w'
       go_simp
       with_reducible rfl
      rotate_left
      ·(try simp only [Act.put, List.setIfInBounds_toArray, List.set_cons_zero, List.set_cons_succ])
       rfl
      refine pure_ (i := 21) (N := some 50) (v := ?_) (a' := ?_) NCb41 rfl rfl (any_of HT_.out (by kernel_rfl)) (fun _ _ _ h => h) (Or.inl ⟨by rfl, ?_⟩) ?_ ?_
      rotate_left
      ·intro w'
       go_simp
       with_reducible rfl
      rotate_left
      ·(try simp only [Act.put, List.setIfInBounds_toArray, List.set_cons_zero, List.set_cons_succ])
       rfl
      refine take_ (i := 15) (N := some 44) (v := ?_) (a' := ?_) NCb42 rfl rfl (take_ofW HT_.out HW_.out (by kernel_rfl)) (fun _ _ _ h => h) (Or.inl ⟨by rfl, ?_⟩) hHeld ?_ ?_
      rotate_left
      ·intro w' hS_
       have hx_ : w'.cell? ⟨w.heap.size, 1, none⟩ = _ := blk_cell ((hS_.block _ (blk_lt HD1.out)).trans HD1.out) 1
       go_simp
       with_reducible rfl
      rotate_left
      ·(try simp only [Act.put, List.setIfInBounds_toArray, List.set_cons_zero, List.set_cons_succ])
       rfl
      refine pure_ (i := 18) (N := some 47) (v := ?_) (a' := ?_) NCb43 rfl rfl (any_of HT_.out (by kernel_rfl)) (fun _ _ _ h => h) (Or.inl ⟨by rfl, ?_⟩) ?_ ?_
      rotate_left
      ·intro w'
       go_simp
       with_reducible rfl
      rotate_left
      ·(try simp only [Act.put, List.setIfInBounds_toArray, List.set_cons_zero, List.set_cons_succ])
       rfl
      refine pure_ (i := 19) (N := some 48) (v := ?_) (a' := ?_) NCb44 rfl rfl (any_of HT_.out (by kernel_rfl)) (fun _ _ _ h => h) (Or.inl ⟨by rfl, ?_⟩) ?_ ?_
      rotate_left
      ·intro w'
       go_simp
       with_reducible rfl
      rotate_left
      ·(try simp only [Act.put, List.setIfInBounds_toArray, List.set_cons_zero, List.set_cons_succ])
       rfl
      refine take_ (i := 20) (N := some 49) (v := ?_) (a' := ?_) NCb21 rfl rfl (take_ofW HT_.out HW_.out (by kernel_rfl)) (fun _ _ _ h => h) (Or.inl ⟨by rfl, ?_⟩) hHeld ?_ ?_
      rotate_left
      ·intro w' hS_
       have hx_ := (hS_.cell (World.block_lt_of_cell? _ _ HP.out)).trans HP.out
       go_simp
       with_reducible rfl
      rotate_left
      ·(try simp only [Act.put, List.setIfInBounds_toArray, List.set_cons_zero, List.set_cons_succ])
       rfl
      refine take_ (i := 22) (N := some 51) (v := ?_) (a' := ?_) NCb22 rfl rfl (take_ofW HT_.out HW_.out (by kernel_rfl)) (fun _ _ _ h => h) (Or.inl ⟨by rfl, ?_⟩) hHeld ?_ ?_
      rotate_left
      ·intro w' hS_
       have hx_ : w'.cell? ⟨wr.heap.size, 0, none⟩ = _ := blk_cell ((hS_.block _ (blk_lt HX.out)).trans HX.out) 0
       go_simp
       with_reducible rfl
      rotate_left
      ·(try simp only [Act.put, List.setIfInBounds_toArray, List.set_cons_zero, List.set_cons_succ])
       rfl
      refine pure_ (i := 23) (N := some 52) (v := ?_) (a' := ?_) NCb23 rfl rfl (any_of HT_.out (by kernel_rfl)) (fun _ _ _ h => h) (Or.inl ⟨by rfl, ?_⟩) ?_ ?_
      rotate_left
      ·intro w'
       go_simp
       with_reducible rfl
      rotate_left
      ·(try simp only [Act.put, List.setIfInBounds_toArray, List.set_cons_zero, List.set_cons_succ])
       rfl
      refine pure_ (i := 24) (N := some 53) (v := ?_) (a' := ?_) NCb24 rfl rfl (any_of HT_.out (by kernel_rfl)) (fun _ _ _ h => h) (Or.inl ⟨by rfl, ?_⟩) ?_ ?_
      rotate_left
      ·intro w'
       go_simp
       with_reducible rfl
      rotate_left
      ·(try simp only [Act.put, List.setIfInBounds_toArray, List.set_cons_zero, List.set_cons_succ])
       rfl
      refine pure_ (i := 25) (N := some 54) (v := ?_) (a' := ?_) NCb25 rfl rfl (any_of HT_.out (by kernel_rfl)) (fun _ _ _ h => h) (Or.inl ⟨by rfl, ?_⟩) ?_ ?_
      rotate_left
      ·intro w'
       go_simp
       with_reducible rfl
      rotate_left
      ·(try simp only [Act.put, List.setIfInBounds_toArray, List.set_cons_zero, List.set_cons_succ])
       rfl
      refine pure_ (i := 26) (N := some 55) (v := ?_) (a' := ?_) NCb26 rfl rfl (any_of HT_.out (by kernel_rfl)) (fun _ _ _ h => h) (Or.inl ⟨by rfl, ?_⟩) ?_ ?_
      rotate_left
      ·intro w'
       go_simp
       with_reducible rfl
      rotate_left
      ·(try simp only [Act.put, List.setIfInBounds_toArray, List.set_cons_zero, List.set_cons_succ])
       rfl
      refine pure_ (i := 27) (N := some 56) (v := ?_) (a' := ?_) NCb27 rfl rfl (any_of HT_.out (by kernel_rfl)) (fun _ _ _ h => h) (Or.inl ⟨by rfl, ?_⟩) ?_ ?_
      rotate_left
      ·intro w'
       go_simp
       with_reducible rfl
      rotate_left
      ·(try simp only [Act.put, List.setIfInBounds_toArray, List.set_cons_zero, List.set_cons_succ])
       rfl
      refine take_ (i := 28) (N := some 57) (v := ?_) (a' := ?_) NCb28 rfl rfl (take_ofW HT_.out HW_.out (by kernel_rfl)) (fun _ _ _ h => h) (Or.inl ⟨by rfl, ?_⟩) hHeld ?_ ?_
      rotate_left
      ·intro w' hS_
       have hx_ : w'.cell? ⟨wr.heap.size, 1, none⟩ = _ := blk_cell ((hS_.block _ (blk_lt HX.out)).trans HX.out) 1
       go_simp
       with_reducible rfl
      rotate_left
      ·(try simp only [Act.put, List.setIfInBounds_toArray, List.set_cons_zero, List.set_cons_succ])
       rfl
      refine one_ (i := 29) (N := some 58) NCb29 rfl rfl (one_of HT_.out (by kernel_rfl)) (by decide) (fun K hK => ?_)
      refine goes_ Tryd.func27 (by kernel_rfl) rfl #[.int .i64 x.f1] (by rfl) rfl rfl (by (try simp only [List.map_toArray, List.map_cons, List.map_nil]); first | done | rfl) ?_
      refine (notify_thread.calls x.f1 true _ HTH.out).mono ?_
      rintro e w9 ⟨rfl, hb⟩
      refine ⟨_, rfl, ?_⟩
      have HN := hHeld.trans (hb.below.mono hHeld.size)
      clear hb
      clear hHeld
      refine hK.out _ _ (HN) (fun hHeld => ?_)
      clear hK K
      refine norm_ (a' := ?_) ?_ ?_
      rotate_left
      ·show Act.put _ (some 58) _ = _
       (try simp only [Act.put, List.setIfInBounds_toArray, List.set_cons_zero, List.set_cons_succ])
       rfl
      refine pure_ (i := 30) (N := some 59) (v := ?_) (a' := ?_) NCb30 rfl rfl (any_of HT_.out (by kernel_rfl)) (fun _ _ _ h => h) (Or.inl ⟨by rfl, ?_⟩) ?_ ?_
      rotate_left
      ·intro w'
       go_simp
       with_reducible rfl
      rotate_left
      ·(try simp only [Act.put, List.setIfInBounds_toArray, List.set_cons_zero, List.set_cons_succ])
       rfl
      refine pure_ (i := 31) (N := some 60) (v := ?_) (a' := ?_) NCb31 rfl rfl (any_of HT_.out (by kernel_rfl)) (fun _ _ _ h => h) (Or.inl ⟨by rfl, ?_⟩) ?_ ?_
      rotate_left
      ·intro w'
       go_simp
       with_reducible rfl
      rotate_left
      ·(try simp only [Act.put, List.setIfInBounds_toArray, List.set_cons_zero, List.set_cons_succ])
       rfl
      refine pure_ (i := 32) (N := some 61) (v := ?_) (a' := ?_) NCb32 rfl rfl (any_of HT_.out (by kernel_rfl)) (fun _ _ _ h => h) (Or.inl ⟨by rfl, ?_⟩) ?_ ?_
      rotate_left
      ·intro w'
       go_simp
       with_reducible rfl
      rotate_left
      ·(try simp only [Act.put, List.setIfInBounds_toArray, List.set_cons_zero, List.set_cons_succ])
       rfl
      refine pure_ (i := 33) (N := some 62) (v := ?_) (a' := ?_) NCb33 rfl rfl (any_of HT_.out (by kernel_rfl)) (fun _ _ _ h => h) (Or.inl ⟨by rfl, ?_⟩) ?_ ?_
      rotate_left
      ·intro w'
       go_simp
       with_reducible rfl
      rotate_left
      ·(try simp only [Act.put, List.setIfInBounds_toArray, List.set_cons_zero, List.set_cons_succ])
       rfl
      refine pure_ (i := 34) (N := some 63) (v := ?_) (a' := ?_) NCb34 rfl rfl (any_of HT_.out (by kernel_rfl)) (fun _ _ _ h => h) (Or.inl ⟨by rfl, ?_⟩) ?_ ?_
      rotate_left
      ·intro w'
       go_simp
       with_reducible rfl
      rotate_left
      ·(try simp only [Act.put, List.setIfInBounds_toArray, List.set_cons_zero, List.set_cons_succ])
       rfl
      refine take_ (i := 35) (N := some 64) (v := ?_) (a' := ?_) NCb35 rfl rfl (take_ofW HT_.out HW_.out (by kernel_rfl)) (fun _ _ _ h => h) (Or.inl ⟨by rfl, ?_⟩) hHeld ?_ ?_
      rotate_left
      ·intro w' hS_
       have hx_ : w'.cell? ⟨wr.heap.size, 1, none⟩ = _ := blk_cell ((hS_.block _ (blk_lt HX.out)).trans HX.out) 1
       go_simp
       with_reducible rfl
      rotate_left
      ·(try simp only [Act.put, List.setIfInBounds_toArray, List.set_cons_zero, List.set_cons_succ])
       rfl
      refine take_ (i := 36) (N := some 65) (v := ?_) (a' := ?_) NCb36 rfl rfl (take_ofW HT_.out HW_.out (by kernel_rfl)) (fun _ _ _ h => h) (Or.inl ⟨by rfl, ?_⟩) hHeld ?_ ?_
      rotate_left
      ·intro w' hS_
       have hx_ := (HS1.out.below hS_ HS1.out.lt).lookup HWF.out
       go_simp
       with_reducible rfl
      rotate_left
      ·(try simp only [Act.put, List.setIfInBounds_toArray, List.set_cons_zero, List.set_cons_succ])
       rfl
      refine pure_ (i := 37) (N := some 66) (v := ?_) (a' := ?_) NCb37 rfl rfl (any_of HT_.out (by kernel_rfl)) (fun _ _ _ h => h) (Or.inl ⟨by rfl, ?_⟩) ?_ ?_
      rotate_left
      ·intro w'
       go_simp
       with_reducible rfl
      rotate_left
      ·(try simp only [Act.put, List.setIfInBounds_toArray, List.set_cons_zero, List.set_cons_succ])
       rfl
      refine done_ (done_of HT_.out (by kernel_rfl)) ?_
      clear HT_ HW_
      have HBW := Lib.hid ((KB1.out).trans (hHeld.mono KB1.out.size))
      have HX2 := (hHeld.block _ (blk_lt HX.out)).trans HX.out
      have hx1 := blk_cell HX2 1
      have HD2 := Lib.hid ((hHeld.block _ (blk_lt HD1.out)).trans HD1.out)
      have HS2 := Lib.hid (HS1.out.below hHeld HS1.out.lt)
      clear hHeld HSS HX HX2 HD1 HS1 HP
      go_wp2_with (first | (at_mapUpdate; refine wpList_put_set rfl _ _ _ rfl (w.heap.size + 1) k (seen l k) rfl HS2.out (max9 (by have := HJ.out; have := HH.out.2.2; omega)) x.f1 HWF.out rfl rfl ?_; intro w2 hs2 hb2; have HB2 := Lib.hid hb2; have HS3 := Lib.hid hs2; clear hs2 hb2))
      refine ⟨⟨k + 1, j + 1, rfl, Lib.hid (by have := HJ.out; omega), by omega, by omega, Lib.hid ?_, Lib.hid ?_, Lib.hid ?_, Lib.hid ?_⟩, by simp [intOf]; omega⟩
      ·exact HBW.out.trans (HB2.out _ (by omega))
      ·exact ((HB2.out (w.heap.size + 1) (Nat.le_refl _)).block _ (by omega)).trans HD2.out
      ·rw [← seen_step l k (by have := HJ.out; have := HM.out; omega), ← show x.f1 = tidOf l k by rw [HXK.out, HJ.out]]; exact HS3.out
      ·intro q hq; rcases Nat.lt_or_ge q k with h | h; · exact KO.out q h
       obtain rfl : q = k := by omega
       exact HOK.out
    ·have HTH := Lib.hid (show notify_thread.f x.f1 = some false by unfold notify_thread.f; split <;> first | rfl | rw [decide_eq_false (by omega)])
     have HV := Lib.hid (show chkV nx l = 350 from if_neg (fun h => by have q := (h.2.2.2 k (by have := HJ.out; have := HM.out; omega)).2.2.2; rw [tidOf, ← (show x = rd_T36 l (k : Int) by rw [HXK.out, HJ.out])] at q; exact c5 ⟨q.1, q.2.1⟩))
     have HSS : Below w1.heap.size w1 w1.drew := below_drew (Below.refl _ _)
     refine start_ (n := 38) (S := fun w' => Below w1.heap.size w1 w') (ds := []) NCb0 (by kernel_rfl) rfl rfl (HSS) (fun hHeld => ?_); refine with_tabW chk.tab7 chk.bits7 (fun HT_ HW_ => ?_)
     refine pure_ (i := 0) (N := some 29) (v := ?_) (a' := ?_) NCb1 rfl rfl (any_of HT_.out (by kernel_rfl)) (fun _ _ _ h => h) (Or.inl ⟨by rfl, ?_⟩) ?_ ?_
     rotate_left
     ·intro w'
      go_simp
      with_reducible rfl
     rotate_left
     ·(try simp only [Act.put, List.setIfInBounds_toArray, List.set_cons_zero, List.set_cons_succ])
      rfl
     refine take_ (i := 1) (N := some 30) (v := ?_) (a' := ?_) NCb2 rfl rfl (take_ofW HT_.out HW_.out (by kernel_rfl)) (fun _ _ _ h => h) (Or.inl ⟨by rfl, ?_⟩) hHeld ?_ ?_
     rotate_left
     ·intro w' hS_
      have hx_ : w'.cell? ⟨wr.heap.size, 0, none⟩ = _ := blk_cell ((hS_.block _ (blk_lt HX.out)).trans HX.out) 0
      go_simp
      with_reducible rfl
     rotate_left
     ·(try simp only [Act.put, List.setIfInBounds_toArray, List.set_cons_zero, List.set_cons_succ])
      rfl
     refine pure_ (i := 2) (N := some 31) (v := ?_) (a' := ?_) NCb3 rfl rfl (any_of HT_.out (by kernel_rfl)) (fun _ _ _ h => h) (Or.inl ⟨by rfl, ?_⟩) ?_ ?_
     rotate_left
     ·intro w'
      go_simp
      with_reducible rfl
     rotate_left
     ·(try simp only [Act.put, List.setIfInBounds_toArray, List.set_cons_zero, List.set_cons_succ])
      rfl
     refine pure_ (i := 3) (N := some 32) (v := ?_) (a' := ?_) NCb4 rfl rfl (any_of HT_.out (by kernel_rfl)) (fun _ _ _ h => h) (Or.inl ⟨by rfl, ?_⟩) ?_ ?_
     rotate_left
     ·intro w'
      go_simp
      with_reducible rfl
     rotate_left
     ·(try simp only [Act.put, List.setIfInBounds_toArray, List.set_cons_zero, List.set_cons_succ])
      rfl
     refine pure_ (i := 4) (N := some 33) (v := ?_) (a' := ?_) NCb5 rfl rfl (any_of HT_.out (by kernel_rfl)) (fun _ _ _ h => h) (Or.inl ⟨by rfl, ?_⟩) ?_ ?_
     rotate_left
     ·intro w'
      go_simp
      with_reducible rfl
     rotate_left
     ·(try simp only [Act.put, List.setIfInBounds_toArray, List.set_cons_zero, List.set_cons_succ])
      rfl
     refine pure_ (i := 6) (N := some 35) (v := ?_) (a' := ?_) NCb38 rfl rfl (any_of HT_.out (by kernel_rfl)) (fun _ _ _ h => h) (Or.inl ⟨by rfl, ?_⟩) ?_ ?_
     rotate_left
     ·intro w'
      go_simp
      with_reducible rfl
     rotate_left
     ·(try simp only [Act.put, List.setIfInBounds_toArray, List.set_cons_zero, List.set_cons_succ])
      rfl
     refine take_ (i := 5) (N := some 34) (v := ?_) (a' := ?_) NCb6 rfl rfl (take_ofW HT_.out HW_.out (by kernel_rfl)) (fun _ _ _ h => h) (Or.inl ⟨by rfl, ?_⟩) hHeld ?_ ?_
     rotate_left
     ·intro w' hS_
      have hx_ : w'.cell? ⟨wr.heap.size, 0, none⟩ = _ := blk_cell ((hS_.block _ (blk_lt HX.out)).trans HX.out) 0
      go_simp
      with_reducible rfl
     rotate_left
     ·(try simp only [Act.put, List.setIfInBounds_toArray, List.set_cons_zero, List.set_cons_succ])
      rfl
     refine take_ (i := 7) (N := some 36) (v := ?_) (a' := ?_) NCb7 rfl rfl (take_ofW HT_.out HW_.out (by kernel_rfl)) (fun _ _ _ h => h) (Or.inl ⟨by rfl, ?_⟩) hHeld ?_ ?_
     rotate_left
     ·intro w' hS_
      have hx_ : w'.cell? ⟨w.heap.size, 0, none⟩ = _ := blk_cell ((hS_.block _ (blk_lt HD1.out)).trans HD1.out) 0
      go_simp
      with_reducible rfl
     rotate_left
     ·(try simp only [Act.put, List.setIfInBounds_toArray, List.set_cons_zero, List.set_cons_succ])
      rfl
     refine pure_ (i := 8) (N := some 37) (v := ?_) (a' := ?_) NCb8 rfl rfl (any_of HT_.out (by kernel_rfl)) (fun _ _ _ h => h) (Or.inl ⟨by rfl, ?_⟩) ?_ ?_
     rotate_left
     ·intro w'
      go_simp
      with_reducible rfl
     rotate_left
     ·(try simp only [Act.put, List.setIfInBounds_toArray, List.set_cons_zero, List.set_cons_succ])
      rfl
     refine pure_ (i := 9) (N := some 38) (v := ?_) (a' := ?_) NCb9 rfl rfl (any_of HT_.out (by kernel_rfl)) (fun _ _ _ h => h) (Or.inl ⟨by rfl, ?_⟩) ?_ ?_
     rotate_left
     ·intro w'
      go_simp
      with_reducible rfl
     rotate_left
     ·(try simp only [Act.put, List.setIfInBounds_toArray, List.set_cons_zero, List.set_cons_succ])
      rfl
     refine pure_ (i := 10) (N := some 39) (v := ?_) (a' := ?_) NCb10 rfl rfl (any_of HT_.out (by kernel_rfl)) (fun _ _ _ h => h) (Or.inl ⟨by rfl, ?_⟩) ?_ ?_
     rotate_left
     ·intro w'
      go_simp
      with_reducible rfl
     rotate_left
     ·(try simp only [Act.put, List.setIfInBounds_toArray, List.set_cons_zero, List.set_cons_succ])
      rfl
     refine pure_ (i := 11) (N := some 40) (v := ?_) (a' := ?_) NCb11 rfl rfl (any_of HT_.out (by kernel_rfl)) (fun _ _ _ h => h) (Or.inl ⟨by rfl, ?_⟩) ?_ ?_
     rotate_left
     ·intro w'
      go_simp
      with_reducible rfl
     rotate_left
     ·(try simp only [Act.put, List.setIfInBounds_toArray, List.set_cons_zero, List.set_cons_succ])
      rfl
     refine pure_ (i := 12) (N := some 41) (v := ?_) (a' := ?_) NCb12 rfl rfl (any_of HT_.out (by kernel_rfl)) (fun _ _ _ h => h) (Or.inl ⟨by rfl, ?_⟩) ?_ ?_
     rotate_left
     ·intro w'
      go_simp
      with_reducible rfl
     rotate_left
     ·(try simp only [Act.put, List.setIfInBounds_toArray, List.set_cons_zero, List.set_cons_succ])
      rfl
     refine pure_ (i := 13) (N := some 42) (v := ?_) (a' := ?_) NCb13 rfl rfl (any_of HT_.out (by kernel_rfl)) (fun _ _ _ h => h) (Or.inl ⟨by rfl, ?_⟩) ?_ ?_
     rotate_left
     ·intro w'
      go_simp
      with_reducible rfl
     rotate_left
     ·(try simp only [Act.put, List.setIfInBounds_toArray, List.set_cons_zero, List.set_cons_succ])
      rfl
     refine pure_ (i := 14) (N := some 43) (v := ?_) (a' := ?_) NCb14 rfl rfl (any_of HT_.out (by kernel_rfl)) (fun _ _ _ h => h) (Or.inl ⟨by rfl, ?_⟩) ?_ ?_
     rotate_left
     ·intro w'
      go_simp
      with_reducible rfl
     rotate_left
     ·(try simp only [Act.put, List.setIfInBounds_toArray, List.set_cons_zero, List.set_cons_succ])
      rfl
     refine pure_ (i := 16) (N := some 45) (v := ?_) (a' := ?_) NCb39 rfl rfl (any_of HT_.out (by kernel_rfl)) (fun _ _ _ h => h) (Or.inl ⟨by rfl, ?_⟩) ?_ ?_
     rotate_left
     ·intro w'
      go_simp
      with_reducible rfl
     rotate_left
     ·(try simp only [Act.put, List.setIfInBounds_toArray, List.set_cons_zero, List.set_cons_succ])
      rfl
     refine pure_ (i := 17) (N := some 46) (v := ?_) (a' := ?_) NCb40 rfl rfl (any_of HT_.out (by kernel_rfl)) (fun _ _ _ h => h) (Or.inl ⟨by rfl, ?_⟩) ?_ ?_
     rotate_left
     ·intro w'
      go_simp
      with_reducible rfl
     rotate_left
     ·(try simp only [Act.put, List.setIfInBounds_toArray, List.set_cons_zero, List.set_cons_succ])
      rfl
     refine pure_ (i := 21) (N := some 50) (v := ?_) (a' := ?_) NCb41 rfl rfl (any_of HT_.out (by kernel_rfl)) (fun _ _ _ h => h) (Or.inl ⟨by rfl, ?_⟩) ?_ ?_
     rotate_left
     ·intro w'
      go_simp
      with_reducible rfl
     rotate_left
     ·(try simp only [Act.put, List.setIfInBounds_toArray, List.set_cons_zero, List.set_cons_succ])
      rfl
     refine take_ (i := 15) (N := some 44) (v := ?_) (a' := ?_) NCb42 rfl rfl (take_ofW HT_.out HW_.out (by kernel_rfl)) (fun _ _ _ h => h) (Or.inl ⟨by rfl, ?_⟩) hHeld ?_ ?_
     rotate_left
     ·intro w' hS_
      have hx_ : w'.cell? ⟨w.heap.size, 1, none⟩ = _ := blk_cell ((hS_.block _ (blk_lt HD1.out)).trans HD1.out) 1
      go_simp
      with_reducible rfl
     rotate_left
     ·(try simp only [Act.put, List.setIfInBounds_toArray, List.set_cons_zero, List.set_cons_succ])
      rfl
     refine pure_ (i := 18) (N := some 47) (v := ?_) (a' := ?_) NCb43 rfl rfl (any_of HT_.out (by kernel_rfl)) (fun _ _ _ h => h) (Or.inl ⟨by rfl, ?_⟩) ?_ ?_
     rotate_left
     ·intro w'
      go_simp
      with_reducible rfl
     rotate_left
     ·(try simp only [Act.put, List.setIfInBounds_toArray, List.set_cons_zero, List.set_cons_succ])
      rfl
     refine pure_ (i := 19) (N := some 48) (v := ?_) (a' := ?_) NCb44 rfl rfl (any_of HT_.out (by kernel_rfl)) (fun _ _ _ h => h) (Or.inl ⟨by rfl, ?_⟩) ?_ ?_
     rotate_left
     ·intro w'
      go_simp
      with_reducible rfl
     rotate_left
     ·(try simp only [Act.put, List.setIfInBounds_toArray, List.set_cons_zero, List.set_cons_succ])
      rfl
     refine take_ (i := 20) (N := some 49) (v := ?_) (a' := ?_) NCb21 rfl rfl (take_ofW HT_.out HW_.out (by kernel_rfl)) (fun _ _ _ h => h) (Or.inl ⟨by rfl, ?_⟩) hHeld ?_ ?_
     rotate_left
     ·intro w' hS_
      have hx_ := (hS_.cell (World.block_lt_of_cell? _ _ HP.out)).trans HP.out
      go_simp
      with_reducible rfl
     rotate_left
     ·(try simp only [Act.put, List.setIfInBounds_toArray, List.set_cons_zero, List.set_cons_succ])
      rfl
     refine take_ (i := 22) (N := some 51) (v := ?_) (a' := ?_) NCb22 rfl rfl (take_ofW HT_.out HW_.out (by kernel_rfl)) (fun _ _ _ h => h) (Or.inl ⟨by rfl, ?_⟩) hHeld ?_ ?_
     rotate_left
     ·intro w' hS_
      have hx_ : w'.cell? ⟨wr.heap.size, 0, none⟩ = _ := blk_cell ((hS_.block _ (blk_lt HX.out)).trans HX.out) 0
      go_simp
      with_reducible rfl
     rotate_left
     ·(try simp only [Act.put, List.setIfInBounds_toArray, List.set_cons_zero, List.set_cons_succ])
      rfl
     refine pure_ (i := 23) (N := some 52) (v := ?_) (a' := ?_) NCb23 rfl rfl (any_of HT_.out (by kernel_rfl)) (fun _ _ _ h => h) (Or.inl ⟨by rfl, ?_⟩) ?_ ?_
     rotate_left
     ·intro w'
      go_simp
      with_reducible rfl
     rotate_left
     ·(try simp only [Act.put, List.setIfInBounds_toArray, List.set_cons_zero, List.set_cons_succ])
      rfl
     refine pure_ (i := 24) (N := some 53) (v := ?_) (a' := ?_) NCb24 rfl rfl (any_of HT_.out (by kernel_rfl)) (fun _ _ _ h => h) (Or.inl ⟨by rfl, ?_⟩) ?_ ?_
     rotate_left
     ·intro w'
      go_simp
      with_reducible rfl
     rotate_left
     ·(try simp only [Act.put, List.setIfInBounds_toArray, List.set_cons_zero, List.set_cons_succ])
      rfl
     refine pure_ (i := 25) (N := some 54) (v := ?_) (a' := ?_) NCb25 rfl rfl (any_of HT_.out (by kernel_rfl)) (fun _ _ _ h => h) (Or.inl ⟨by rfl, ?_⟩) ?_ ?_
     rotate_left
     ·intro w'
      go_simp
      with_reducible rfl
     rotate_left
     ·(try simp only [Act.put, List.setIfInBounds_toArray, List.set_cons_zero, List.set_cons_succ])
      rfl
     refine pure_ (i := 26) (N := some 55) (v := ?_) (a' := ?_) NCb26 rfl rfl (any_of HT_.out (by kernel_rfl)) (fun _ _ _ h => h) (Or.inl ⟨by rfl, ?_⟩) ?_ ?_
     rotate_left
     ·intro w'
      go_simp
      with_reducible rfl
     rotate_left
     ·(try simp only [Act.put, List.setIfInBounds_toArray, List.set_cons_zero, List.set_cons_succ])
      rfl
     refine pure_ (i := 27) (N := some 56) (v := ?_) (a' := ?_) NCb27 rfl rfl (any_of HT_.out (by kernel_rfl)) (fun _ _ _ h => h) (Or.inl ⟨by rfl, ?_⟩) ?_ ?_
     rotate_left
     ·intro w'
      go_simp
      with_reducible rfl
     rotate_left
     ·(try simp only [Act.put, List.setIfInBounds_toArray, List.set_cons_zero, List.set_cons_succ])
      rfl
     refine take_ (i := 28) (N := some 57) (v := ?_) (a' := ?_) NCb28 rfl rfl (take_ofW HT_.out HW_.out (by kernel_rfl)) (fun _ _ _ h => h) (Or.inl ⟨by rfl, ?_⟩) hHeld ?_ ?_
     rotate_left
     ·intro w' hS_
      have hx_ : w'.cell? ⟨wr.heap.size, 1, none⟩ = _ := blk_cell ((hS_.block _ (blk_lt HX.out)).trans HX.out) 1
      go_simp
      with_reducible rfl
     rotate_left
     ·(try simp only [Act.put, List.setIfInBounds_toArray, List.set_cons_zero, List.set_cons_succ])
      rfl
     refine one_ (i := 29) (N := some 58) NCb29 rfl rfl (one_of HT_.out (by kernel_rfl)) (by decide) (fun K hK => ?_)
     refine goes_ Tryd.func27 (by kernel_rfl) rfl #[.int .i64 x.f1] (by rfl) rfl rfl (by (try simp only [List.map_toArray, List.map_cons, List.map_nil]); first | done | rfl) ?_
     refine (notify_thread.calls x.f1 false _ HTH.out).mono ?_
     rintro e w9 ⟨rfl, hb⟩
     refine ⟨_, rfl, ?_⟩
     have HN := hHeld.trans (hb.below.mono hHeld.size)
     clear hb
     clear hHeld
     refine hK.out _ _ (HN) (fun hHeld => ?_)
     clear hK K
     refine norm_ (a' := ?_) ?_ ?_
     rotate_left
     ·show Act.put _ (some 58) _ = _
      (try simp only [Act.put, List.setIfInBounds_toArray, List.set_cons_zero, List.set_cons_succ])
      rfl
     refine pure_ (i := 30) (N := some 59) (v := ?_) (a' := ?_) NCb30 rfl rfl (any_of HT_.out (by kernel_rfl)) (fun _ _ _ h => h) (Or.inl ⟨by rfl, ?_⟩) ?_ ?_
     rotate_left
     ·intro w'
      go_simp
      with_reducible rfl
     rotate_left
     ·(try simp only [Act.put, List.setIfInBounds_toArray, List.set_cons_zero, List.set_cons_succ])
      rfl
     refine pure_ (i := 31) (N := some 60) (v := ?_) (a' := ?_) NCb31 rfl rfl (any_of HT_.out (by kernel_rfl)) (fun _ _ _ h => h) (Or.inl ⟨by rfl, ?_⟩) ?_ ?_
     rotate_left
     ·intro w'
      go_simp
      with_reducible rfl
     rotate_left
     ·(try simp only [Act.put, List.setIfInBounds_toArray, List.set_cons_zero, List.set_cons_succ])
      rfl
     refine pure_ (i := 32) (N := some 61) (v := ?_) (a' := ?_) NCb32 rfl rfl (any_of HT_.out (by kernel_rfl)) (fun _ _ _ h => h) (Or.inl ⟨by rfl, ?_⟩) ?_ ?_
     rotate_left
     ·intro w'
      go_simp
      with_reducible rfl
     rotate_left
     ·(try simp only [Act.put, List.setIfInBounds_toArray, List.set_cons_zero, List.set_cons_succ])
      rfl
     refine pure_ (i := 33) (N := some 62) (v := undef) (a' := ?_) NCb33 rfl rfl (any_of HT_.out (by kernel_rfl)) (fun _ _ _ h => h) (Or.inr ⟨by rfl, rfl⟩) ?_ ?_
     rotate_left
     ·(try simp only [Act.put, List.setIfInBounds_toArray, List.set_cons_zero, List.set_cons_succ])
      rfl
     refine pure_ (i := 34) (N := some 63) (v := undef) (a' := ?_) NCb34 rfl rfl (any_of HT_.out (by kernel_rfl)) (fun _ _ _ h => h) (Or.inr ⟨by rfl, rfl⟩) ?_ ?_
     rotate_left
     ·(try simp only [Act.put, List.setIfInBounds_toArray, List.set_cons_zero, List.set_cons_succ])
      rfl
     refine pure_ (i := 35) (N := some 64) (v := undef) (a' := ?_) NCb35 rfl rfl (any_of HT_.out (by kernel_rfl)) (fun _ _ _ h => h) (Or.inr ⟨by rfl, rfl⟩) ?_ ?_
     rotate_left
     ·(try simp only [Act.put, List.setIfInBounds_toArray, List.set_cons_zero, List.set_cons_succ])
      rfl
     refine pure_ (i := 36) (N := some 65) (v := undef) (a' := ?_) NCb36 rfl rfl (any_of HT_.out (by kernel_rfl)) (fun _ _ _ h => h) (Or.inr ⟨by rfl, rfl⟩) ?_ ?_
     rotate_left
     ·(try simp only [Act.put, List.setIfInBounds_toArray, List.set_cons_zero, List.set_cons_succ])
      rfl
     refine pure_ (i := 37) (N := some 66) (v := ?_) (a' := ?_) NCb37 rfl rfl (any_of HT_.out (by kernel_rfl)) (fun _ _ _ h => h) (Or.inl ⟨by rfl, ?_⟩) ?_ ?_
     rotate_left
     ·intro w'
      go_simp
      with_reducible rfl
     rotate_left
     ·(try simp only [Act.put, List.setIfInBounds_toArray, List.set_cons_zero, List.set_cons_succ])
      rfl
     refine done_ (done_of HT_.out (by kernel_rfl)) ?_
     clear HT_ HW_
     have HE := hHeld.size
     have HBW := (KB1.out).trans (hHeld.mono KB1.out.size)
     clear hHeld HSS HX HD1 HS1 HP
     go_wp2_with fail
     go_ret
     exact ⟨by rw [HV.out]; rfl, HBW⟩

   ·have c3b := decide_eq_false c3
    have HP := Lib.hid True.intro
    by_cases c5 : 1 ≤ x.f1 ∧ x.f1 ≤ 20
    ·have HTH := Lib.hid (show notify_thread.f x.f1 = some true by unfold notify_thread.f; rw [if_pos c5.1, decide_eq_true c5.2])
     have HWF := Lib.hid (wf64 (k := x.f1) (by omega) (by omega))
     by_cases c6 : seen l k x.f1 = true
     ·have HV := Lib.hid (show chkV nx l = 350 from if_neg (fun h => by have q := (h.2.2.2 k (by have := HJ.out; have := HM.out; omega)).2.2.2.2.2; rw [tidOf, ← (show x = rd_T36 l (k : Int) by rw [HXK.out, HJ.out])] at q; exact absurd (c6.symm.trans q) (by decide)))
      have HSS : Below w1.heap.size w1 w1.drew := below_drew (Below.refl _ _)
      refine start_ (n := 38) (S := fun w' => Below w1.heap.size w1 w') (ds := []) NCb0 (by kernel_rfl) rfl rfl (HSS) (fun hHeld => ?_); refine with_tabW chk.tab7 chk.bits7 (fun HT_ HW_ => ?_)
      refine pure_ (i := 0) (N := some 29) (v := ?_) (a' := ?_) NCb1 rfl rfl (any_of HT_.out (by kernel_rfl)) (fun _ _ _ h => h) (Or.inl ⟨by rfl, ?_⟩) ?_ ?_
      rotate_left
      ·intro w'
       go_simp
       with_reducible rfl
      rotate_left
      ·(try simp only [Act.put, List.setIfInBounds_toArray, List.set_cons_zero, List.set_cons_succ])
       rfl
      refine take_ (i := 1) (N := some 30) (v := ?_) (a' := ?_) NCb2 rfl rfl (take_ofW HT_.out HW_.out (by kernel_rfl)) (fun _ _ _ h => h) (Or.inl ⟨by rfl, ?_⟩) hHeld ?_ ?_
      rotate_left
      ·intro w' hS_
       have hx_ : w'.cell? ⟨wr.heap.size, 0, none⟩ = _ := blk_cell ((hS_.block _ (blk_lt HX.out)).trans HX.out) 0
       go_simp
       with_reducible rfl
      rotate_left
      ·(try simp only [Act.put, List.setIfInBounds_toArray, List.set_cons_zero, List.set_cons_succ])
       rfl
      refine pure_ (i := 2) (N := some 31) (v := ?_) (a' := ?_) NCb3 rfl rfl (any_of HT_.out (by kernel_rfl)) (fun _ _ _ h => h) (Or.inl ⟨by rfl, ?_⟩) ?_ ?_
      rotate_left
      ·intro w'
       go_simp
       with_reducible rfl
      rotate_left
      ·(try simp only [Act.put, List.setIfInBounds_toArray, List.set_cons_zero, List.set_cons_succ])
       rfl
      refine pure_ (i := 3) (N := some 32) (v := ?_) (a' := ?_) NCb4 rfl rfl (any_of HT_.out (by kernel_rfl)) (fun _ _ _ h => h) (Or.inl ⟨by rfl, ?_⟩) ?_ ?_
      rotate_left
      ·intro w'
       go_simp
       with_reducible rfl
      rotate_left
      ·(try simp only [Act.put, List.setIfInBounds_toArray, List.set_cons_zero, List.set_cons_succ])
       rfl
      refine pure_ (i := 4) (N := some 33) (v := ?_) (a' := ?_) NCb5 rfl rfl (any_of HT_.out (by kernel_rfl)) (fun _ _ _ h => h) (Or.inl ⟨by rfl, ?_⟩) ?_ ?_
      rotate_left
      ·intro w'
       go_simp
       with_reducible rfl
      rotate_left
      ·(try simp only [Act.put, List.setIfInBounds_toArray, List.set_cons_zero, List.set_cons_succ])
       rfl
      refine pure_ (i := 6) (N := some 35) (v := ?_) (a' := ?_) NCb38 rfl rfl (any_of HT_.out (by kernel_rfl)) (fun _ _ _ h => h) (Or.inl ⟨by rfl, ?_⟩) ?_ ?_
      rotate_left
      ·intro w'
       go_simp
       with_reducible rfl
      rotate_left
      ·(try simp only [Act.put, List.setIfInBounds_toArray, List.set_cons_zero, List.set_cons_succ])
       rfl
      refine take_ (i := 5) (N := some 34) (v := ?_) (a' := ?_) NCb6 rfl rfl (take_ofW HT_.out HW_.out (by kernel_rfl)) (fun _ _ _ h => h) (Or.inl ⟨by rfl, ?_⟩) hHeld ?_ ?_
      rotate_left
      ·intro w' hS_
       have hx_ : w'.cell? ⟨wr.heap.size, 0, none⟩ = _ := blk_cell ((hS_.block _ (blk_lt HX.out)).trans HX.out) 0
       go_simp
       with_reducible rfl
      rotate_left
      ·(try simp only [Act.put, List.setIfInBounds_toArray, List.set_cons_zero, List.set_cons_succ])
       rfl
      refine take_ (i := 7) (N := some 36) (v := ?_) (a' := ?_) NCb7 rfl rfl (take_ofW HT_.out HW_.out (by kernel_rfl)) (fun _ _ _ h => h) (Or.inl ⟨by rfl, ?_⟩) hHeld ?_ ?_
      rotate_left
      ·intro w' hS_
       have hx_ : w'.cell? ⟨w.heap.size, 0, none⟩ = _ := blk_cell ((hS_.block _ (blk_lt HD1.out)).trans HD1.out) 0
       go_simp
       with_reducible rfl
      rotate_left
      ·(try simp only [Act.put, List.setIfInBounds_toArray, List.set_cons_zero, List.set_cons_succ])
       rfl
      refine pure_ (i := 8) (N := some 37) (v := ?_) (a' := ?_) NCb8 rfl rfl (any_of HT_.out (by kernel_rfl)) (fun _ _ _ h => h) (Or.inl ⟨by rfl, ?_⟩) ?_ ?_
      rotate_left
      ·intro w'
       go_simp
       with_reducible rfl
      rotate_left
      ·(try simp only [Act.put, List.setIfInBounds_toArray, List.set_cons_zero, List.set_cons_succ])
       rfl
      refine pure_ (i := 9) (N := some 38) (v := ?_) (a' := ?_) NCb9 rfl rfl (any_of HT_.out (by kernel_rfl)) (fun _ _ _ h => h) (Or.inl ⟨by rfl, ?_⟩) ?_ ?_
      rotate_left
      ·intro w'
       go_simp
       with_reducible rfl
      rotate_left
      ·(try simp only [Act.put, List.setIfInBounds_toArray, List.set_cons_zero, List.set_cons_succ])
       rfl
      refine pure_ (i := 10) (N := some 39) (v := ?_) (a' := ?_) NCb10 rfl rfl (any_of HT_.out (by kernel_rfl)) (fun _ _ _ h => h) (Or.inl ⟨by rfl, ?_⟩) ?_ ?_
      rotate_left
      ·intro w'
       go_simp
       with_reducible rfl
      rotate_left
      ·(try simp only [Act.put, List.setIfInBounds_toArray, List.set_cons_zero, List.set_cons_succ])
       rfl
      refine pure_ (i := 11) (N := some 40) (v := ?_) (a' := ?_) NCb11 rfl rfl (any_of HT_.out (by kernel_rfl)) (fun _ _ _ h => h) (Or.inl ⟨by rfl, ?_⟩) ?_ ?_
      rotate_left
      ·intro w'
       go_simp
       with_reducible rfl
      rotate_left
      ·(try simp only [Act.put, List.setIfInBounds_toArray, List.set_cons_zero, List.set_cons_succ])
       rfl
      refine pure_ (i := 12) (N := some 41) (v := ?_) (a' := ?_) NCb12 rfl rfl (any_of HT_.out (by kernel_rfl)) (fun _ _ _ h => h) (Or.inl ⟨by rfl, ?_⟩) ?_ ?_
      rotate_left
      ·intro w'
       go_simp
       with_reducible rfl
      rotate_left
      ·(try simp only [Act.put, List.setIfInBounds_toArray, List.set_cons_zero, List.set_cons_succ])
       rfl
      refine pure_ (i := 13) (N := some 42) (v := ?_) (a' := ?_) NCb13 rfl rfl (any_of HT_.out (by kernel_rfl)) (fun _ _ _ h => h) (Or.inl ⟨by rfl, ?_⟩) ?_ ?_
      rotate_left
      ·intro w'
       go_simp
       with_reducible rfl
      rotate_left
      ·(try simp only [Act.put, List.setIfInBounds_toArray, List.set_cons_zero, List.set_cons_succ])
       rfl
      refine pure_ (i := 14) (N := some 43) (v := undef) (a' := ?_) NCb14 rfl rfl (any_of HT_.out (by kernel_rfl)) (fun _ _ _ h => h) (Or.inr ⟨by rfl, rfl⟩) ?_ ?_
      rotate_left
      ·(try simp only [Act.put, List.setIfInBounds_toArray, List.set_cons_zero, List.set_cons_succ])
       rfl
      refine pure_ (i := 15) (N := some 44) (v := undef) (a' := ?_) NCb15 rfl rfl (any_of HT_.out (by kernel_rfl)) (fun _ _ _ h => h) (Or.inr ⟨by rfl, rfl⟩) ?_ ?_
      rotate_left
      ·(try simp only [Act.put, List.setIfInBounds_toArray, List.set_cons_zero, List.set_cons_succ])
       rfl
      refine pure_ (i := 16) (N := some 45) (v := undef) (a' := ?_) NCb16 rfl rfl (any_of HT_.out (by kernel_rfl)) (fun _ _ _ h => h) (Or.inr ⟨by rfl, rfl⟩) ?_ ?_
      rotate_left
      ·(try simp only [Act.put, List.setIfInBounds_toArray, List.set_cons_zero, List.set_cons_succ])
       rfl
      refine pure_ (i := 17) (N := some 46) (v := undef) (a' := ?_) NCb17 rfl rfl (any_of HT_.out (by kernel_rfl)) (fun _ _ _ h => h) (Or.inr ⟨by rfl, rfl⟩) ?_ ?_
      rotate_left
      ·(try simp only [Act.put, List.setIfInBounds_toArray, List.set_cons_zero, List.set_cons_succ])
       rfl
      refine pure_ (i := 18) (N := some 47) (v := undef) (a' := ?_) NCb18 rfl rfl (any_of HT_.out (by kernel_rfl)) (fun _ _ _ h => h) (Or.inr ⟨by rfl, rfl⟩) ?_ ?_
      rotate_left
      ·(try simp only [Act.put, List.setIfInBounds_toArray, List.set_cons_zero, List.set_cons_succ])
       rfl
      refine pure_ (i := 19) (N := some 48) (v := undef) (a' := ?_) NCb19 rfl rfl (any_of HT_.out (by kernel_rfl)) (fun _ _ _ h => h) (Or.inr ⟨by rfl, rfl⟩) ?_ ?_
      rotate_left
      ·(try simp only [Act.put, List.setIfInBounds_toArray, List.set_cons_zero, List.set_cons_succ])
       rfl
      refine pure_ (i := 20) (N := some 49) (v := undef) (a' := ?_) NCb20 rfl rfl (any_of HT_.out (by kernel_rfl)) (fun _ _ _ h => h) (Or.inr ⟨by rfl, rfl⟩) ?_ ?_
      rotate_left
      ·(try simp only [Act.put, List.setIfInBounds_toArray, List.set_cons_zero, List.set_cons_succ])
       rfl
      refine pure_ (i := 21) (N := some 50) (v := undef) (a' := ?_) NCb21 rfl rfl (any_of HT_.out (by kernel_rfl)) (fun _ _ _ h => h) (Or.inr ⟨by rfl, rfl⟩) ?_ ?_
      rotate_left
      ·(try simp only [Act.put, List.setIfInBounds_toArray, List.set_cons_zero, List.set_cons_succ])
       rfl
      refine pure_ (i := 22) (N := some 51) (v := undef) (a' := ?_) NCb22 rfl rfl (any_of HT_.out (by kernel_rfl)) (fun _ _ _ h => h) (Or.inr ⟨by rfl, rfl⟩) ?_ ?_
      rotate_left
      ·(try simp only [Act.put, List.setIfInBounds_toArray, List.set_cons_zero, List.set_cons_succ])
       rfl
      refine pure_ (i := 23) (N := some 52) (v := undef) (a' := ?_) NCb23 rfl rfl (any_of HT_.out (by kernel_rfl)) (fun _ _ _ h => h) (Or.inr ⟨by rfl, rfl⟩) ?_ ?_
      rotate_left
      ·(try simp only [Act.put, List.setIfInBounds_toArray, List.set_cons_zero, List.set_cons_succ])
       rfl
      refine pure_ (i := 24) (N := some 53) (v := ?_) (a' := ?_) NCb24 rfl rfl (any_of HT_.out (by kernel_rfl)) (fun _ _ _ h => h) (Or.inl ⟨by rfl, ?_⟩) ?_ ?_
      rotate_left
      ·intro w'
       go_simp
       with_reducible rfl
      rotate_left
      ·(try simp only [Act.put, List.setIfInBounds_toArray, List.set_cons_zero, List.set_cons_succ])
       rfl
      refine pure_ (i := 25) (N := some 54) (v := ?_) (a' := ?_) NCb25 rfl rfl (any_of HT_.out (by kernel_rfl)) (fun _ _ _ h => h) (Or.inl ⟨by rfl, ?_⟩) ?_ ?_
      rotate_left
      ·intro w'
       go_simp
       with_reducible rfl
      rotate_left
      ·(try simp only [Act.put, List.setIfInBounds_toArray, List.set_cons_zero, List.set_cons_succ])
       rfl
      refine pure_ (i := 26) (N := some 55) (v := ?_) (a' := ?_) NCb26 rfl rfl (any_of HT_.out (by kernel_rfl)) (fun _ _ _ h => h) (Or.inl ⟨by rfl, ?_⟩) ?_ ?_
      rotate_left
      ·intro w'
       go_simp
       with_reducible rfl
      rotate_left
      ·(try simp only [Act.put, List.setIfInBounds_toArray, List.set_cons_zero, List.set_cons_succ])
       rfl
      refine pure_ (i := 27) (N := some 56) (v := ?_) (a' := ?_) NCb27 rfl rfl (any_of HT_.out (by kernel_rfl)) (fun _ _ _ h => h) (Or.inl ⟨by rfl, ?_⟩) ?_ ?_
      rotate_left
      ·intro w'
       go_simp
       with_reducible rfl
      rotate_left
      ·(try simp only [Act.put, List.setIfInBounds_toArray, List.set_cons_zero, List.set_cons_succ])
       rfl
      refine take_ (i := 28) (N := some 57) (v := ?_) (a' := ?_) NCb28 rfl rfl (take_ofW HT_.out HW_.out (by kernel_rfl)) (fun _ _ _ h => h) (Or.inl ⟨by rfl, ?_⟩) hHeld ?_ ?_
      rotate_left
      ·intro w' hS_
       have hx_ : w'.cell? ⟨wr.heap.size, 1, none⟩ = _ := blk_cell ((hS_.block _ (blk_lt HX.out)).trans HX.out) 1
       go_simp
       with_reducible rfl
      rotate_left
      ·(try simp only [Act.put, List.setIfInBounds_toArray, List.set_cons_zero, List.set_cons_succ])
       rfl
      refine one_ (i := 29) (N := some 58) NCb29 rfl rfl (one_of HT_.out (by kernel_rfl)) (by decide) (fun K hK => ?_)
      refine goes_ Tryd.func27 (by kernel_rfl) rfl #[.int .i64 x.f1] (by rfl) rfl rfl (by (try simp only [List.map_toArray, List.map_cons, List.map_nil]); first | done | rfl) ?_
      refine (notify_thread.calls x.f1 true _ HTH.out).mono ?_
      rintro e w9 ⟨rfl, hb⟩
      refine ⟨_, rfl, ?_⟩
      have HN := hHeld.trans (hb.below.mono hHeld.size)
      clear hb
      clear hHeld
      refine hK.out _ _ (HN) (fun hHeld => ?_)
      clear hK K
      refine norm_ (a' := ?_) ?_ ?_
      rotate_left
      ·show Act.put _ (some 58) _ = _
       (try simp only [Act.put, List.setIfInBounds_toArray, List.set_cons_zero, List.set_cons_succ])
       rfl
      refine pure_ (i := 30) (N := some 59) (v := ?_) (a' := ?_) NCb30 rfl rfl (any_of HT_.out (by kernel_rfl)) (fun _ _ _ h => h) (Or.inl ⟨by rfl, ?_⟩) ?_ ?_
      rotate_left
      ·intro w'
       go_simp
       with_reducible rfl
      rotate_left
      ·(try simp only [Act.put, List.setIfInBounds_toArray, List.set_cons_zero, List.set_cons_succ])
       rfl
      refine pure_ (i := 31) (N := some 60) (v := ?_) (a' := ?_) NCb31 rfl rfl (any_of HT_.out (by kernel_rfl)) (fun _ _ _ h => h) (Or.inl ⟨by rfl, ?_⟩) ?_ ?_
      rotate_left
      ·intro w'
       go_simp
       with_reducible rfl
      rotate_left
      ·(try simp only [Act.put, List.setIfInBounds_toArray, List.set_cons_zero, List.set_cons_succ])
       rfl
      refine pure_ (i := 32) (N := some 61) (v := ?_) (a' := ?_) NCb32 rfl rfl (any_of HT_.out (by kernel_rfl)) (fun _ _ _ h => h) (Or.inl ⟨by rfl, ?_⟩) ?_ ?_
      rotate_left
      ·intro w'
       go_simp
       with_reducible rfl
      rotate_left
      ·(try simp only [Act.put, List.setIfInBounds_toArray, List.set_cons_zero, List.set_cons_succ])
       rfl
      refine pure_ (i := 33) (N := some 62) (v := ?_) (a' := ?_) NCb33 rfl rfl (any_of HT_.out (by kernel_rfl)) (fun _ _ _ h => h) (Or.inl ⟨by rfl, ?_⟩) ?_ ?_
      rotate_left
      ·intro w'
       go_simp
       with_reducible rfl
      rotate_left
      ·(try simp only [Act.put, List.setIfInBounds_toArray, List.set_cons_zero, List.set_cons_succ])
       rfl
      refine pure_ (i := 34) (N := some 63) (v := ?_) (a' := ?_) NCb34 rfl rfl (any_of HT_.out (by kernel_rfl)) (fun _ _ _ h => h) (Or.inl ⟨by rfl, ?_⟩) ?_ ?_
      rotate_left
      ·intro w'
       go_simp
       with_reducible rfl
      rotate_left
      ·(try simp only [Act.put, List.setIfInBounds_toArray, List.set_cons_zero, List.set_cons_succ])
       rfl
      refine take_ (i := 35) (N := some 64) (v := ?_) (a' := ?_) NCb35 rfl rfl (take_ofW HT_.out HW_.out (by kernel_rfl)) (fun _ _ _ h => h) (Or.inl ⟨by rfl, ?_⟩) hHeld ?_ ?_
      rotate_left
      ·intro w' hS_
       have hx_ : w'.cell? ⟨wr.heap.size, 1, none⟩ = _ := blk_cell ((hS_.block _ (blk_lt HX.out)).trans HX.out) 1
       go_simp
       with_reducible rfl
      rotate_left
      ·(try simp only [Act.put, List.setIfInBounds_toArray, List.set_cons_zero, List.set_cons_succ])
       rfl
      refine take_ (i := 36) (N := some 65) (v := ?_) (a' := ?_) NCb36 rfl rfl (take_ofW HT_.out HW_.out (by kernel_rfl)) (fun _ _ _ h => h) (Or.inl ⟨by rfl, ?_⟩) hHeld ?_ ?_
      rotate_left
      ·intro w' hS_
       have hx_ := (HS1.out.below hS_ HS1.out.lt).lookup HWF.out
       go_simp
       with_reducible rfl
      rotate_left
      ·(try simp only [Act.put, List.setIfInBounds_toArray, List.set_cons_zero, List.set_cons_succ])
       rfl
      refine pure_ (i := 37) (N := some 66) (v := ?_) (a' := ?_) NCb37 rfl rfl (any_of HT_.out (by kernel_rfl)) (fun _ _ _ h => h) (Or.inl ⟨by rfl, ?_⟩) ?_ ?_
      rotate_left
      ·intro w'
       go_simp
       with_reducible rfl
      rotate_left
      ·(try simp only [Act.put, List.setIfInBounds_toArray, List.set_cons_zero, List.set_cons_succ])
       rfl
      refine done_ (done_of HT_.out (by kernel_rfl)) ?_
      clear HT_ HW_
      have HE := hHeld.size
      have HBW := (KB1.out).trans (hHeld.mono KB1.out.size)
      clear hHeld HSS HX HD1 HS1 HP
      go_wp2_with fail
      go_ret
      exact ⟨by rw [HV.out]; rfl, HBW⟩
     ·have c6' := Bool.eq_false_iff.2 c6
      have HOK := Lib.hid (show okAt nx l k from ⟨by rw [ckOf, ← (show x = rd_T36 l (k : Int) by rw [HXK.out, HJ.out])]; omega, by rw [ckOf, ← (show x = rd_T36 l (k : Int) by rw [HXK.out, HJ.out])]; omega, (fun h => absurd h (by have := HJ.out; have := HM.out; omega)), by rw [tidOf, ← (show x = rd_T36 l (k : Int) by rw [HXK.out, HJ.out])]; exact c5.1, by rw [tidOf, ← (show x = rd_T36 l (k : Int) by rw [HXK.out, HJ.out])]; exact c5.2, by rw [tidOf, ← (show x = rd_T36 l (k : Int) by rw [HXK.out, HJ.out])]; exact c6'⟩)
      have HSS : Below w1.heap.size w1 w1.drew := below_drew (Below.refl _ _)
      refine start_ (n := 38) (S := fun w' => Below w1.heap.size w1 w') (ds := []) NCb0 (by kernel_rfl) rfl rfl (HSS) (fun hHeld => ?_); refine with_tabW chk.tab7 chk.bits7 (fun HT_ HW_ => ?_)
      refine pure_ (i := 0) (N := some 29) (v := ?_) (a' := ?_) NCb1 rfl rfl (any_of HT_.out (by kernel_rfl)) (fun _ _ _ h => h) (Or.inl ⟨by rfl, ?_⟩) ?_ ?_
      rotate_left
      ·intro w'
       go_simp
       with_reducible rfl
      rotate_left
      ·(try simp only [Act.put, List.setIfInBounds_toArray, List.set_cons_zero, List.set_cons_succ])
       rfl
      refine take_ (i := 1) (N := some 30) (v := ?_) (a' := ?_) NCb2 rfl rfl (take_ofW HT_.out HW_.out (by kernel_rfl)) (fun _ _ _ h => h) (Or.inl ⟨by rfl, ?_⟩) hHeld ?_ ?_
      rotate_left
      ·intro w' hS_
       have hx_ : w'.cell? ⟨wr.heap.size, 0, none⟩ = _ := blk_cell ((hS_.block _ (blk_lt HX.out)).trans HX.out) 0
       go_simp
       with_reducible rfl
      rotate_left
      ·(try simp only [Act.put, List.setIfInBounds_toArray, List.set_cons_zero, List.set_cons_succ])
       rfl
      refine pure_ (i := 2) (N := some 31) (v := ?_) (a' := ?_) NCb3 rfl rfl (any_of HT_.out (by kernel_rfl)) (fun _ _ _ h => h) (Or.inl ⟨by rfl, ?_⟩) ?_ ?_
      rotate_left
      ·intro w'
       go_simp
       with_reducible rfl
      rotate_left
      ·(try simp only [Act.put, List.setIfInBounds_toArray, List.set_cons_zero, List.set_cons_succ])
       rfl
      refine pure_ (i := 3) (N := some 32) (v := ?_) (a' := ?_) NCb4 rfl rfl (any_of HT_.out (by kernel_rfl)) (fun _ _ _ h => h) (Or.inl ⟨by rfl, ?_⟩) ?_ ?_
      rotate_left
      ·intro w'
       go_simp
       with_reducible rfl
      rotate_left
      ·(try simp only [Act.put, List.setIfInBounds_toArray, List.set_cons_zero, List.set_cons_succ])
       rfl
      refine pure_ (i := 4) (N := some 33) (v := ?_) (a' := ?_) NCb5 rfl rfl (any_of HT_.out (by kernel_rfl)) (fun _ _ _ h => h) (Or.inl ⟨by rfl, ?_⟩) ?_ ?_
      rotate_left
      ·intro w'
       go_simp
       with_reducible rfl
      rotate_left
      ·(try simp only [Act.put, List.setIfInBounds_toArray, List.set_cons_zero, List.set_cons_succ])
       rfl
      refine pure_ (i := 6) (N := some 35) (v := ?_) (a' := ?_) NCb38 rfl rfl (any_of HT_.out (by kernel_rfl)) (fun _ _ _ h => h) (Or.inl ⟨by rfl, ?_⟩) ?_ ?_
      rotate_left
      ·intro w'
       go_simp
       with_reducible rfl
      rotate_left
      ·(try simp only [Act.put, List.setIfInBounds_toArray, List.set_cons_zero, List.set_cons_succ])
       rfl
      refine take_ (i := 5) (N := some 34) (v := ?_) (a' := ?_) NCb6 rfl rfl (take_ofW HT_.out HW_.out (by kernel_rfl)) (fun _ _ _ h => h) (Or.inl ⟨by rfl, ?_⟩) hHeld ?_ ?_
      rotate_left
      ·intro w' hS_
       have hx_ : w'.cell? ⟨wr.heap.size, 0, none⟩ = _ := blk_cell ((hS_.block _ (blk_lt HX.out)).trans HX.out) 0
       go_simp
       with_reducible rfl
      rotate_left
      ·(try simp only [Act.put, List.setIfInBounds_toArray, List.set_cons_zero, List.set_cons_succ])
       rfl
      refine take_ (i := 7) (N := some 36) (v := ?_) (a' := ?_) NCb7 rfl rfl (take_ofW HT_.out HW_.out (by kernel_rfl)) (fun _ _ _ h => h) (Or.inl ⟨by rfl, ?_⟩) hHeld ?_ ?_
      rotate_left
      ·intro w' hS_
       have hx_ : w'.cell? ⟨w.heap.size, 0, none⟩ = _ := blk_cell ((hS_.block _ (blk_lt HD1.out)).trans HD1.out) 0
       go_simp
       with_reducible rfl
      rotate_left
      ·(try simp only [Act.put, List.setIfInBounds_toArray, List.set_cons_zero, List.set_cons_succ])
       rfl
      refine pure_ (i := 8) (N := some 37) (v := ?_) (a' := ?_) NCb8 rfl rfl (any_of HT_.out (by kernel_rfl)) (fun _ _ _ h => h) (Or.inl ⟨by rfl, ?_⟩) ?_ ?_
      rotate_left
      ·intro w'
       go_simp
       with_reducible rfl
      rotate_left
      ·(try simp only [Act.put, List.setIfInBounds_toArray, List.set_cons_zero, List.set_cons_succ])
       rfl
      refine pure_ (i := 9) (N := some 38) (v := ?_) (a' := ?_) NCb9 rfl rfl (any_of HT_.out (by kernel_rfl)) (fun _ _ _ h => h) (Or.inl ⟨by rfl, ?_⟩) ?_ ?_
      rotate_left
      ·intro w'
       go_simp
       with_reducible rfl
      rotate_left
      ·(try simp only [Act.put, List.setIfInBounds_toArray, List.set_cons_zero, List.set_cons_succ])
       rfl
      refine pure_ (i := 10) (N := some 39) (v := ?_) (a' := ?_) NCb10 rfl rfl (any_of HT_.out (by kernel_rfl)) (fun _ _ _ h => h) (Or.inl ⟨by rfl, ?_⟩) ?_ ?_
      rotate_left
      ·intro w'
       go_simp
       with_reducible rfl
      rotate_left
      ·(try simp only [Act.put, List.setIfInBounds_toArray, List.set_cons_zero, List.set_cons_succ])
       rfl
      refine pure_ (i := 11) (N := some 40) (v := ?_) (a' := ?_) NCb11 rfl rfl (any_of HT_.out (by kernel_rfl)) (fun _ _ _ h => h) (Or.inl ⟨by rfl, ?_⟩) ?_ ?_
      rotate_left
      ·intro w'
       go_simp
       with_reducible rfl
      rotate_left
      ·(try simp only [Act.put, List.setIfInBounds_toArray, List.set_cons_zero, List.set_cons_succ])
       rfl
      refine pure_ (i := 12) (N := some 41) (v := ?_) (a' := ?_) NCb12 rfl rfl (any_of HT_.out (by kernel_rfl)) (fun _ _ _ h => h) (Or.inl ⟨by rfl, ?_⟩) ?_ ?_
      rotate_left
      ·intro w'
       go_simp
       with_reducible rfl
      rotate_left
      ·(try simp only [Act.put, List.setIfInBounds_toArray, List.set_cons_zero, List.set_cons_succ])
       rfl
      refine pure_ (i := 13) (N := some 42) (v := ?_) (a' := ?_) NCb13 rfl rfl (any_of HT_.out (by kernel_rfl)) (fun _ _ _ h => h) (Or.inl ⟨by rfl, ?_⟩) ?_ ?_
      rotate_left
      ·intro w'
       go_simp
       with_reducible rfl
      rotate_left
      ·(try simp only [Act.put, List.setIfInBounds_toArray, List.set_cons_zero, List.set_cons_succ])
       rfl
      refine pure_ (i := 14) (N := some 43) (v := undef) (a' := ?_) NCb14 rfl rfl (any_of HT_.out (by kernel_rfl)) (fun _ _ _ h => h) (Or.inr ⟨by rfl, rfl⟩) ?_ ?_
      rotate_left
      ·(try simp only [Act.put, List.setIfInBounds_toArray, List.set_cons_zero, List.set_cons_succ])
       rfl
      refine pure_ (i := 15) (N := some 44) (v := undef) (a' := ?_) NCb15 rfl rfl (any_of HT_.out (by kernel_rfl)) (fun _ _ _ h => h) (Or.inr ⟨by rfl, rfl⟩) ?_ ?_
      rotate_left
      ·(try simp only [Act.put, List.setIfInBounds_toArray, List.set_cons_zero, List.set_cons_succ])
       rfl
      refine pure_ (i := 16) (N := some 45) (v := undef) (a' := ?_) NCb16 rfl rfl (any_of HT_.out (by kernel_rfl)) (fun _ _ _ h => h) (Or.inr ⟨by rfl, rfl⟩) ?_ ?_
      rotate_left
      ·(try simp only [Act.put, List.setIfInBounds_toArray, List.set_cons_zero, List.set_cons_succ])
       rfl
      refine pure_ (i := 17) (N := some 46) (v := undef) (a' := ?_) NCb17 rfl rfl (any_of HT_.out (by kernel_rfl)) (fun _ _ _ h => h) (Or.inr ⟨by rfl, rfl⟩) ?_ ?_
      rotate_left
      ·(try simp only [Act.put, List.setIfInBounds_toArray, List.set_cons_zero, List.set_cons_succ])
       rfl
      refine pure_ (i := 18) (N := some 47) (v := undef) (a' := ?_) NCb18 rfl rfl (any_of HT_.out (by kernel_rfl)) (fun _ _ _ h => h) (Or.inr ⟨by rfl, rfl⟩) ?_ ?_
      rotate_left
      ·(try simp only [Act.put, List.setIfInBounds_toArray, List.set_cons_zero, List.set_cons_succ])
       rfl
      refine pure_ (i := 19) (N := some 48) (v := undef) (a' := ?_) NCb19 rfl rfl (any_of HT_.out (by kernel_rfl)) (fun _ _ _ h => h) (Or.inr ⟨by rfl, rfl⟩) ?_ ?_
      rotate_left
      ·(try simp only [Act.put, List.setIfInBounds_toArray, List.set_cons_zero, List.set_cons_succ])
       rfl
      refine pure_ (i := 20) (N := some 49) (v := undef) (a' := ?_) NCb20 rfl rfl (any_of HT_.out (by kernel_rfl)) (fun _ _ _ h => h) (Or.inr ⟨by rfl, rfl⟩) ?_ ?_
      rotate_left
      ·(try simp only [Act.put, List.setIfInBounds_toArray, List.set_cons_zero, List.set_cons_succ])
       rfl
      refine pure_ (i := 21) (N := some 50) (v := undef) (a' := ?_) NCb21 rfl rfl (any_of HT_.out (by kernel_rfl)) (fun _ _ _ h => h) (Or.inr ⟨by rfl, rfl⟩) ?_ ?_
      rotate_left
      ·(try simp only [Act.put, List.setIfInBounds_toArray, List.set_cons_zero, List.set_cons_succ])
       rfl
      refine pure_ (i := 22) (N := some 51) (v := undef) (a' := ?_) NCb22 rfl rfl (any_of HT_.out (by kernel_rfl)) (fun _ _ _ h => h) (Or.inr ⟨by rfl, rfl⟩) ?_ ?_
      rotate_left
      ·(try simp only [Act.put, List.setIfInBounds_toArray, List.set_cons_zero, List.set_cons_succ])
       rfl
      refine pure_ (i := 23) (N := some 52) (v := undef) (a' := ?_) NCb23 rfl rfl (any_of HT_.out (by kernel_rfl)) (fun _ _ _ h => h) (Or.inr ⟨by rfl, rfl⟩) ?_ ?_
      rotate_left
      ·(try simp only [Act.put, List.setIfInBounds_toArray, List.set_cons_zero, List.set_cons_succ])
       rfl
      refine pure_ (i := 24) (N := some 53) (v := ?_) (a' := ?_) NCb24 rfl rfl (any_of HT_.out (by kernel_rfl)) (fun _ _ _ h => h) (Or.inl ⟨by rfl, ?_⟩) ?_ ?_
      rotate_left
      ·intro w'
       go_simp
       with_reducible rfl
      rotate_left
      ·(try simp only [Act.put, List.setIfInBounds_toArray, List.set_cons_zero, List.set_cons_succ])
       rfl
      refine pure_ (i := 25) (N := some 54) (v := ?_) (a' := ?_) NCb25 rfl rfl (any_of HT_.out (by kernel_rfl)) (fun _ _ _ h => h) (Or.inl ⟨by rfl, ?_⟩) ?_ ?_
      rotate_left
      ·intro w'
       go_simp
       with_reducible rfl
      rotate_left
      ·(try simp only [Act.put, List.setIfInBounds_toArray, List.set_cons_zero, List.set_cons_succ])
       rfl
      refine pure_ (i := 26) (N := some 55) (v := ?_) (a' := ?_) NCb26 rfl rfl (any_of HT_.out (by kernel_rfl)) (fun _ _ _ h => h) (Or.inl ⟨by rfl, ?_⟩) ?_ ?_
      rotate_left
      ·intro w'
       go_simp
       with_reducible rfl
      rotate_left
      ·(try simp only [Act.put, List.setIfInBounds_toArray, List.set_cons_zero, List.set_cons_succ])
       rfl
      refine pure_ (i := 27) (N := some 56) (v := ?_) (a' := ?_) NCb27 rfl rfl (any_of HT_.out (by kernel_rfl)) (fun _ _ _ h => h) (Or.inl ⟨by rfl, ?_⟩) ?_ ?_
      rotate_left
      ·intro w'
       go_simp
       with_reducible rfl
      rotate_left
      ·(try simp only [Act.put, List.setIfInBounds_toArray, List.set_cons_zero, List.set_cons_succ])
       rfl
      refine take_ (i := 28) (N := some 57) (v := ?_) (a' := ?_) NCb28 rfl rfl (take_ofW HT_.out HW_.out (by kernel_rfl)) (fun _ _ _ h => h) (Or.inl ⟨by rfl, ?_⟩) hHeld ?_ ?_
      rotate_left
      ·intro w' hS_
       have hx_ : w'.cell? ⟨wr.heap.size, 1, none⟩ = _ := blk_cell ((hS_.block _ (blk_lt HX.out)).trans HX.out) 1
       go_simp
       with_reducible rfl
      rotate_left
      ·(try simp only [Act.put, List.setIfInBounds_toArray, List.set_cons_zero, List.set_cons_succ])
       rfl
      refine one_ (i := 29) (N := some 58) NCb29 rfl rfl (one_of HT_.out (by kernel_rfl)) (by decide) (fun K hK => ?_)
      refine goes_ Tryd.func27 (by kernel_rfl) rfl #[.int .i64 x.f1] (by rfl) rfl rfl (by (try simp only [List.map_toArray, List.map_cons, List.map_nil]); first | done | rfl) ?_
      refine (notify_thread.calls x.f1 true _ HTH.out).mono ?_
      rintro e w9 ⟨rfl, hb⟩
      refine ⟨_, rfl, ?_⟩
      have HN := hHeld.trans (hb.below.mono hHeld.size)
      clear hb
      clear hHeld
      refine hK.out _ _ (HN) (fun hHeld => ?_)
      clear hK K
      refine norm_ (a' := ?_) ?_ ?_
      rotate_left
      ·show Act.put _ (some 58) _ = _
       (try simp only [Act.put, List.setIfInBounds_toArray, List.set_cons_zero, List.set_cons_succ])
       rfl
      refine pure_ (i := 30) (N := some 59) (v := ?_) (a' := ?_) NCb30 rfl rfl (any_of HT_.out (by kernel_rfl)) (fun _ _ _ h => h) (Or.inl ⟨by rfl, ?_⟩) ?_ ?_
      rotate_left
      ·intro w'
       go_simp
       with_reducible rfl
      rotate_left
      ·(try simp only [Act.put, List.setIfInBounds_toArray, List.set_cons_zero, List.set_cons_succ])
       rfl
      refine pure_ (i := 31) (N := some 60) (v := ?_) (a' := ?_) NCb31 rfl rfl (any_of HT_.out (by kernel_rfl)) (fun _ _ _ h => h) (Or.inl ⟨by rfl, ?_⟩) ?_ ?_
      rotate_left
      ·intro w'
       go_simp
       with_reducible rfl
      rotate_left
      ·(try simp only [Act.put, List.setIfInBounds_toArray, List.set_cons_zero, List.set_cons_succ])
       rfl
      refine pure_ (i := 32) (N := some 61) (v := ?_) (a' := ?_) NCb32 rfl rfl (any_of HT_.out (by kernel_rfl)) (fun _ _ _ h => h) (Or.inl ⟨by rfl, ?_⟩) ?_ ?_
      rotate_left
      ·intro w'
       go_simp
       with_reducible rfl
      rotate_left
      ·(try simp only [Act.put, List.setIfInBounds_toArray, List.set_cons_zero, List.set_cons_succ])
       rfl
      refine pure_ (i := 33) (N := some 62) (v := ?_) (a' := ?_) NCb33 rfl rfl (any_of HT_.out (by kernel_rfl)) (fun _ _ _ h => h) (Or.inl ⟨by rfl, ?_⟩) ?_ ?_
      rotate_left
      ·intro w'
       go_simp
       with_reducible rfl
      rotate_left
      ·(try simp only [Act.put, List.setIfInBounds_toArray, List.set_cons_zero, List.set_cons_succ])
       rfl
      refine pure_ (i := 34) (N := some 63) (v := ?_) (a' := ?_) NCb34 rfl rfl (any_of HT_.out (by kernel_rfl)) (fun _ _ _ h => h) (Or.inl ⟨by rfl, ?_⟩) ?_ ?_
      rotate_left
      ·intro w'
       go_simp
       with_reducible rfl
      rotate_left
      ·(try simp only [Act.put, List.setIfInBounds_toArray, List.set_cons_zero, List.set_cons_succ])
       rfl
      refine take_ (i := 35) (N := some 64) (v := ?_) (a' := ?_) NCb35 rfl rfl (take_ofW HT_.out HW_.out (by kernel_rfl)) (fun _ _ _ h => h) (Or.inl ⟨by rfl, ?_⟩) hHeld ?_ ?_
      rotate_left
      ·intro w' hS_
       have hx_ : w'.cell? ⟨wr.heap.size, 1, none⟩ = _ := blk_cell ((hS_.block _ (blk_lt HX.out)).trans HX.out) 1
       go_simp
       with_reducible rfl
      rotate_left
      ·(try simp only [Act.put, List.setIfInBounds_toArray, List.set_cons_zero, List.set_cons_succ])
       rfl
      refine take_ (i := 36) (N := some 65) (v := ?_) (a' := ?_) NCb36 rfl rfl (take_ofW HT_.out HW_.out (by kernel_rfl)) (fun _ _ _ h => h) (Or.inl ⟨by rfl, ?_⟩) hHeld ?_ ?_
      rotate_left
      ·intro w' hS_
       have hx_ := (HS1.out.below hS_ HS1.out.lt).lookup HWF.out
       go_simp
       with_reducible rfl
      rotate_left
      ·(try simp only [Act.put, List.setIfInBounds_toArray, List.set_cons_zero, List.set_cons_succ])
       rfl
      refine pure_ (i := 37) (N := some 66) (v := ?_) (a' := ?_) NCb37 rfl rfl (any_of HT_.out (by kernel_rfl)) (fun _ _ _ h => h) (Or.inl ⟨by rfl, ?_⟩) ?_ ?_
      rotate_left
      ·intro w'
       go_simp
       with_reducible rfl
      rotate_left
      ·(try simp only [Act.put, List.setIfInBounds_toArray, List.set_cons_zero, List.set_cons_succ])
       rfl
      refine done_ (done_of HT_.out (by kernel_rfl)) ?_
      clear HT_ HW_
      have HBW := Lib.hid ((KB1.out).trans (hHeld.mono KB1.out.size))
      have HX2 := (hHeld.block _ (blk_lt HX.out)).trans HX.out
      have hx1 := blk_cell HX2 1
      have HD2 := Lib.hid ((hHeld.block _ (blk_lt HD1.out)).trans HD1.out)
      have HS2 := Lib.hid (HS1.out.below hHeld HS1.out.lt)
      clear hHeld HSS HX HX2 HD1 HS1 HP
      go_wp2_with (first | (at_mapUpdate; refine wpList_put_set rfl _ _ _ rfl (w.heap.size + 1) k (seen l k) rfl HS2.out (max9 (by have := HJ.out; have := HH.out.2.2; omega)) x.f1 HWF.out rfl rfl ?_; intro w2 hs2 hb2; have HB2 := Lib.hid hb2; have HS3 := Lib.hid hs2; clear hs2 hb2))
      refine ⟨⟨k + 1, j + 1, rfl, Lib.hid (by have := HJ.out; omega), by omega, by omega, Lib.hid ?_, Lib.hid ?_, Lib.hid ?_, Lib.hid ?_⟩, by simp [intOf]; omega⟩
      ·exact HBW.out.trans (HB2.out _ (by omega))
      ·exact ((HB2.out (w.heap.size + 1) (Nat.le_refl _)).block _ (by omega)).trans HD2.out
      ·rw [← seen_step l k (by have := HJ.out; have := HM.out; omega), ← show x.f1 = tidOf l k by rw [HXK.out, HJ.out]]; exact HS3.out
      ·intro q hq; rcases Nat.lt_or_ge q k with h | h; · exact KO.out q h
       obtain rfl : q = k := by omega
       exact HOK.out
    ·have HTH := Lib.hid (show notify_thread.f x.f1 = some false by unfold notify_thread.f; split <;> first | rfl | rw [decide_eq_false (by omega)])
     have HV := Lib.hid (show chkV nx l = 350 from if_neg (fun h => by have q := (h.2.2.2 k (by have := HJ.out; have := HM.out; omega)).2.2.2; rw [tidOf, ← (show x = rd_T36 l (k : Int) by rw [HXK.out, HJ.out])] at q; exact c5 ⟨q.1, q.2.1⟩))
     have HSS : Below w1.heap.size w1 w1.drew := below_drew (Below.refl _ _)
     refine start_ (n := 38) (S := fun w' => Below w1.heap.size w1 w') (ds := []) NCb0 (by kernel_rfl) rfl rfl (HSS) (fun hHeld => ?_); refine with_tabW chk.tab7 chk.bits7 (fun HT_ HW_ => ?_)
     refine pure_ (i := 0) (N := some 29) (v := ?_) (a' := ?_) NCb1 rfl rfl (any_of HT_.out (by kernel_rfl)) (fun _ _ _ h => h) (Or.inl ⟨by rfl, ?_⟩) ?_ ?_
     rotate_left
     ·intro w'
      go_simp
      with_reducible rfl
     rotate_left
     ·(try simp only [Act.put, List.setIfInBounds_toArray, List.set_cons_zero, List.set_cons_succ])
      rfl
     refine take_ (i := 1) (N := some 30) (v := ?_) (a' := ?_) NCb2 rfl rfl (take_ofW HT_.out HW_.out (by kernel_rfl)) (fun _ _ _ h => h) (Or.inl ⟨by rfl, ?_⟩) hHeld ?_ ?_
     rotate_left
     ·intro w' hS_
      have hx_ : w'.cell? ⟨wr.heap.size, 0, none⟩ = _ := blk_cell ((hS_.block _ (blk_lt HX.out)).trans HX.out) 0
      go_simp
      with_reducible rfl
     rotate_left
     ·(try simp only [Act.put, List.setIfInBounds_toArray, List.set_cons_zero, List.set_cons_succ])
      rfl
     refine pure_ (i := 2) (N := some 31) (v := ?_) (a' := ?_) NCb3 rfl rfl (any_of HT_.out (by kernel_rfl)) (fun _ _ _ h => h) (Or.inl ⟨by rfl, ?_⟩) ?_ ?_
     rotate_left
     ·intro w'
      go_simp
      with_reducible rfl
     rotate_left
     ·(try simp only [Act.put, List.setIfInBounds_toArray, List.set_cons_zero, List.set_cons_succ])
      rfl
     refine pure_ (i := 3) (N := some 32) (v := ?_) (a' := ?_) NCb4 rfl rfl (any_of HT_.out (by kernel_rfl)) (fun _ _ _ h => h) (Or.inl ⟨by rfl, ?_⟩) ?_ ?_
     rotate_left
     ·intro w'
      go_simp
      with_reducible rfl
     rotate_left
     ·(try simp only [Act.put, List.setIfInBounds_toArray, List.set_cons_zero, List.set_cons_succ])
      rfl
     refine pure_ (i := 4) (N := some 33) (v := ?_) (a' := ?_) NCb5 rfl rfl (any_of HT_.out (by kernel_rfl)) (fun _ _ _ h => h) (Or.inl ⟨by rfl, ?_⟩) ?_ ?_
     rotate_left
     ·intro w'
      go_simp
      with_reducible rfl
     rotate_left
     ·(try simp only [Act.put, List.setIfInBounds_toArray, List.set_cons_zero, List.set_cons_succ])
      rfl
     refine pure_ (i := 6) (N := some 35) (v := ?_) (a' := ?_) NCb38 rfl rfl (any_of HT_.out (by kernel_rfl)) (fun _ _ _ h => h) (Or.inl ⟨by rfl, ?_⟩) ?_ ?_
     rotate_left
     ·intro w'
      go_simp
      with_reducible rfl
     rotate_left
     ·(try simp only [Act.put, List.setIfInBounds_toArray, List.set_cons_zero, List.set_cons_succ])
      rfl
     refine take_ (i := 5) (N := some 34) (v := ?_) (a' := ?_) NCb6 rfl rfl (take_ofW HT_.out HW_.out (by kernel_rfl)) (fun _ _ _ h => h) (Or.inl ⟨by rfl, ?_⟩) hHeld ?_ ?_
     rotate_left
     ·intro w' hS_
      have hx_ : w'.cell? ⟨wr.heap.size, 0, none⟩ = _ := blk_cell ((hS_.block _ (blk_lt HX.out)).trans HX.out) 0
      go_simp
      with_reducible rfl
     rotate_left
     ·(try simp only [Act.put, List.setIfInBounds_toArray, List.set_cons_zero, List.set_cons_succ])
      rfl
     refine take_ (i := 7) (N := some 36) (v := ?_) (a' := ?_) NCb7 rfl rfl (take_ofW HT_.out HW_.out (by kernel_rfl)) (fun _ _ _ h => h) (Or.inl ⟨by rfl, ?_⟩) hHeld ?_ ?_
     rotate_left
     ·intro w' hS_
      have hx_ : w'.cell? ⟨w.heap.size, 0, none⟩ = _ := blk_cell ((hS_.block _ (blk_lt HD1.out)).trans HD1.out) 0
      go_simp
      with_reducible rfl
     rotate_left
     ·(try simp only [Act.put, List.setIfInBounds_toArray, List.set_cons_zero, List.set_cons_succ])
      rfl
     refine pure_ (i := 8) (N := some 37) (v := ?_) (a' := ?_) NCb8 rfl rfl (any_of HT_.out (by kernel_rfl)) (fun _ _ _ h => h) (Or.inl ⟨by rfl, ?_⟩) ?_ ?_
     rotate_left
     ·intro w'
      go_simp
      with_reducible rfl
     rotate_left
     ·(try simp only [Act.put, List.setIfInBounds_toArray, List.set_cons_zero, List.set_cons_succ])
      rfl
     refine pure_ (i := 9) (N := some 38) (v := ?_) (a' := ?_) NCb9 rfl rfl (any_of HT_.out (by kernel_rfl)) (fun _ _ _ h => h) (Or.inl ⟨by rfl, ?_⟩) ?_ ?_
     rotate_left
     ·intro w'
      go_simp
      with_reducible rfl
     rotate_left
     ·(try simp only [Act.put, List.setIfInBounds_toArray, List.set_cons_zero, List.set_cons_succ])
      rfl
     refine pure_ (i := 10) (N := some 39) (v := ?_) (a' := ?_) NCb10 rfl rfl (any_of HT_.out (by kernel_rfl)) (fun _ _ _ h => h) (Or.inl ⟨by rfl, ?_⟩) ?_ ?_
     rotate_left
     ·intro w'
      go_simp
      with_reducible rfl
     rotate_left
     ·(try simp only [Act.put, List.setIfInBounds_toArray, List.set_cons_zero, List.set_cons_succ])
      rfl
     refine pure_ (i := 11) (N := some 40) (v := ?_) (a' := ?_) NCb11 rfl rfl (any_of HT_.out (by kernel_rfl)) (fun _ _ _ h => h) (Or.inl ⟨by rfl, ?_⟩) ?_ ?_
     rotate_left
     ·intro w'
      go_simp
      with_reducible rfl
     rotate_left
     ·(try simp only [Act.put, List.setIfInBounds_toArray, List.set_cons_zero, List.set_cons_succ])
      rfl
     refine pure_ (i := 12) (N := some 41) (v := ?_) (a' := ?_) NCb12 rfl rfl (any_of HT_.out (by kernel_rfl)) (fun _ _ _ h => h) (Or.inl ⟨by rfl, ?_⟩) ?_ ?_
     rotate_left
     ·intro w'
      go_simp
      with_reducible rfl
     rotate_left
     ·(try simp only [Act.put, List.setIfInBounds_toArray, List.set_cons_zero, List.set_cons_succ])
      rfl
     refine pure_ (i := 13) (N := some 42) (v := ?_) (a' := ?_) NCb13 rfl rfl (any_of HT_.out (by kernel_rfl)) (fun _ _ _ h => h) (Or.inl ⟨by rfl, ?_⟩) ?_ ?_
     rotate_left
     ·intro w'
      go_simp
      with_reducible rfl
     rotate_left
     ·(try simp only [Act.put, List.setIfInBounds_toArray, List.set_cons_zero, List.set_cons_succ])
      rfl
     refine pure_ (i := 14) (N := some 43) (v := undef) (a' := ?_) NCb14 rfl rfl (any_of HT_.out (by kernel_rfl)) (fun _ _ _ h => h) (Or.inr ⟨by rfl, rfl⟩) ?_ ?_
     rotate_left
     ·(try simp only [Act.put, List.setIfInBounds_toArray, List.set_cons_zero, List.set_cons_succ])
      rfl
     refine pure_ (i := 15) (N := some 44) (v := undef) (a' := ?_) NCb15 rfl rfl (any_of HT_.out (by kernel_rfl)) (fun _ _ _ h => h) (Or.inr ⟨by rfl, rfl⟩) ?_ ?_
     rotate_left
     ·(try simp only [Act.put, List.setIfInBounds_toArray, List.set_cons_zero, List.set_cons_succ])
      rfl
     refine pure_ (i := 16) (N := some 45) (v := undef) (a' := ?_) NCb16 rfl rfl (any_of HT_.out (by kernel_rfl)) (fun _ _ _ h => h) (Or.inr ⟨by rfl, rfl⟩) ?_ ?_
     rotate_left
     ·(try simp only [Act.put, List.setIfInBounds_toArray, List.set_cons_zero, List.set_cons_succ])
      rfl
     refine pure_ (i := 17) (N := some 46) (v := undef) (a' := ?_) NCb17 rfl rfl (any_of HT_.out (by kernel_rfl)) (fun _ _ _ h => h) (Or.inr ⟨by rfl, rfl⟩) ?_ ?_
     rotate_left
     ·(try simp only [Act.put, List.setIfInBounds_toArray, List.set_cons_zero, List.set_cons_succ])
      rfl
     refine pure_ (i := 18) (N := some 47) (v := undef) (a' := ?_) NCb18 rfl rfl (any_of HT_.out (by kernel_rfl)) (fun _ _ _ h => h) (Or.inr ⟨by rfl, rfl⟩) ?_ ?_
     rotate_left
     ·(try simp only [Act.put, List.setIfInBounds_toArray, List.set_cons_zero, List.set_cons_succ])
      rfl
     refine pure_ (i := 19) (N := some 48) (v := undef) (a' := ?_) NCb19 rfl rfl (any_of HT_.out (by kernel_rfl)) (fun _ _ _ h => h) (Or.inr ⟨by rfl, rfl⟩) ?_ ?_
     rotate_left
     ·(try simp only [Act.put, List.setIfInBounds_toArray, List.set_cons_zero, List.set_cons_succ])
      rfl
     refine pure_ (i := 20) (N := some 49) (v := undef) (a' := ?_) NCb20 rfl rfl (any_of HT_.out (by kernel_rfl)) (fun _ _ _ h => h) (Or.inr ⟨by rfl, rfl⟩) ?_ ?_
     rotate_left
     ·(try simp only [Act.put, List.setIfInBounds_toArray, List.set_cons_zero, List.set_cons_succ])
      rfl
     refine pure_ (i := 21) (N := some 50) (v := undef) (a' := ?_) NCb21 rfl rfl (any_of HT_.out (by kernel_rfl)) (fun _ _ _ h => h) (Or.inr ⟨by rfl, rfl⟩) ?_ ?_
     rotate_left
     ·(try simp only [Act.put, List.setIfInBounds_toArray, List.set_cons_zero, List.set_cons_succ])
      rfl
     refine pure_ (i := 22) (N := some 51) (v := undef) (a' := ?_) NCb22 rfl rfl (any_of HT_.out (by kernel_rfl)) (fun _ _ _ h => h) (Or.inr ⟨by rfl, rfl⟩) ?_ ?_
     rotate_left
     ·(try simp only [Act.put, List.setIfInBounds_toArray, List.set_cons_zero, List.set_cons_succ])
      rfl
     refine pure_ (i := 23) (N := some 52) (v := undef) (a' := ?_) NCb23 rfl rfl (any_of HT_.out (by kernel_rfl)) (fun _ _ _ h => h) (Or.inr ⟨by rfl, rfl⟩) ?_ ?_
     rotate_left
     ·(try simp only [Act.put, List.setIfInBounds_toArray, List.set_cons_zero, List.set_cons_succ])
      rfl
     refine pure_ (i := 24) (N := some 53) (v := ?_) (a' := ?_) NCb24 rfl rfl (any_of HT_.out (by kernel_rfl)) (fun _ _ _ h => h) (Or.inl ⟨by rfl, ?_⟩) ?_ ?_
     rotate_left
     ·intro w'
      go_simp
      with_reducible rfl
     rotate_left
     ·(try simp only [Act.put, List.setIfInBounds_toArray, List.set_cons_zero, List.set_cons_succ])
      rfl
     refine pure_ (i := 25) (N := some 54) (v := ?_) (a' := ?_) NCb25 rfl rfl (any_of HT_.out (by kernel_rfl)) (fun _ _ _ h => h) (Or.inl ⟨by rfl, ?_⟩) ?_ ?_
     rotate_left
     ·intro w'
      go_simp
      with_reducible rfl
     rotate_left
     ·(try simp only [Act.put, List.setIfInBounds_toArray, List.set_cons_zero, List.set_cons_succ])
      rfl
     refine pure_ (i := 26) (N := some 55) (v := ?_) (a' := ?_) NCb26 rfl rfl (any_of HT_.out (by kernel_rfl)) (fun _ _ _ h => h) (Or.inl ⟨by rfl, ?_⟩) ?_ ?_
     rotate_left
     ·intro w'
      go_simp
      with_reducible rfl
     rotate_left
     ·(try simp only [Act.put, List.setIfInBounds_toArray, List.set_cons_zero, List.set_cons_succ])
      rfl
     refine pure_ (i := 27) (N := some 56) (v := ?_) (a' := ?_) NCb27 rfl rfl (any_of HT_.out (by kernel_rfl)) (fun _ _ _ h => h) (Or.inl ⟨by rfl, ?_⟩) ?_ ?_
     rotate_left
     ·intro w'
      go_simp
      with_reducible rfl
     rotate_left
     ·(try simp only [Act.put, List.setIfInBounds_toArray, List.set_cons_zero, List.set_cons_succ])
      rfl
     refine take_ (i := 28) (N := some 57) (v := ?_) (a' := ?_) NCb28 rfl rfl (take_ofW HT_.out HW_.out (by kernel_rfl)) (fun _ _ _ h => h) (Or.inl ⟨by rfl, ?_⟩) hHeld ?_ ?_
     rotate_left
     ·intro w' hS_
      have hx_ : w'.cell? ⟨wr.heap.size, 1, none⟩ = _ := blk_cell ((hS_.block _ (blk_lt HX.out)).trans HX.out) 1
      go_simp
      with_reducible rfl
     rotate_left
     ·(try simp only [Act.put, List.setIfInBounds_toArray, List.set_cons_zero, List.set_cons_succ])
      rfl
     refine one_ (i := 29) (N := some 58) NCb29 rfl rfl (one_of HT_.out (by kernel_rfl)) (by decide) (fun K hK => ?_)
     refine goes_ Tryd.func27 (by kernel_rfl) rfl #[.int .i64 x.f1] (by rfl) rfl rfl (by (try simp only [List.map_toArray, List.map_cons, List.map_nil]); first | done | rfl) ?_
     refine (notify_thread.calls x.f1 false _ HTH.out).mono ?_
     rintro e w9 ⟨rfl, hb⟩
     refine ⟨_, rfl, ?_⟩
     have HN := hHeld.trans (hb.below.mono hHeld.size)
     clear hb
     clear hHeld
     refine hK.out _ _ (HN) (fun hHeld => ?_)
     clear hK K
     refine norm_ (a' := ?_) ?_ ?_
     rotate_left
     ·show Act.put _ (some 58) _ = _
      (try simp only [Act.put, List.setIfInBounds_toArray, List.set_cons_zero, List.set_cons_succ])
      rfl
     refine pure_ (i := 30) (N := some 59) (v := ?_) (a' := ?_) NCb30 rfl rfl (any_of HT_.out (by kernel_rfl)) (fun _ _ _ h => h) (Or.inl ⟨by rfl, ?_⟩) ?_ ?_
     rotate_left
     ·intro w'
      go_simp
      with_reducible rfl
     rotate_left
     ·(try simp only [Act.put, List.setIfInBounds_toArray, List.set_cons_zero, List.set_cons_succ])
      rfl
     refine pure_ (i := 31) (N := some 60) (v := ?_) (a' := ?_) NCb31 rfl rfl (any_of HT_.out (by kernel_rfl)) (fun _ _ _ h => h) (Or.inl ⟨by rfl, ?_⟩) ?_ ?_
     rotate_left
     ·intro w'
      go_simp
      with_reducible rfl
     rotate_left
     ·(try simp only [Act.put, List.setIfInBounds_toArray, List.set_cons_zero, List.set_cons_succ])
      rfl
     refine pure_ (i := 32) (N := some 61) (v := ?_) (a' := ?_) NCb32 rfl rfl (any_of HT_.out (by kernel_rfl)) (fun _ _ _ h => h) (Or.inl ⟨by rfl, ?_⟩) ?_ ?_
     rotate_left
     ·intro w'
      go_simp
      with_reducible rfl
     rotate_left
     ·(try simp only [Act.put, List.setIfInBounds_toArray, List.set_cons_zero, List.set_cons_succ])
      rfl
     refine pure_ (i := 33) (N := some 62) (v := undef) (a' := ?_) NCb33 rfl rfl (any_of HT_.out (by kernel_rfl)) (fun _ _ _ h => h) (Or.inr ⟨by rfl, rfl⟩) ?_ ?_
     rotate_left
     ·(try simp only [Act.put, List.setIfInBounds_toArray, List.set_cons_zero, List.set_cons_succ])
      rfl
     refine pure_ (i := 34) (N := some 63) (v := undef) (a' := ?_) NCb34 rfl rfl (any_of HT_.out (by kernel_rfl)) (fun _ _ _ h => h) (Or.inr ⟨by rfl, rfl⟩) ?_ ?_
     rotate_left
     ·(try simp only [Act.put, List.setIfInBounds_toArray, List.set_cons_zero, List.set_cons_succ])
      rfl
     refine pure_ (i := 35) (N := some 64) (v := undef) (a' := ?_) NCb35 rfl rfl (any_of HT_.out (by kernel_rfl)) (fun _ _ _ h => h) (Or.inr ⟨by rfl, rfl⟩) ?_ ?_
     rotate_left
     ·(try simp only [Act.put, List.setIfInBounds_toArray, List.set_cons_zero, List.set_cons_succ])
      rfl
     refine pure_ (i := 36) (N := some 65) (v := undef) (a' := ?_) NCb36 rfl rfl (any_of HT_.out (by kernel_rfl)) (fun _ _ _ h => h) (Or.inr ⟨by rfl, rfl⟩) ?_ ?_
     rotate_left
     ·(try simp only [Act.put, List.setIfInBounds_toArray, List.set_cons_zero, List.set_cons_succ])
      rfl
     refine pure_ (i := 37) (N := some 66) (v := ?_) (a' := ?_) NCb37 rfl rfl (any_of HT_.out (by kernel_rfl)) (fun _ _ _ h => h) (Or.inl ⟨by rfl, ?_⟩) ?_ ?_
     rotate_left
     ·intro w'
      go_simp
      with_reducible rfl
     rotate_left
     ·(try simp only [Act.put, List.setIfInBounds_toArray, List.set_cons_zero, List.set_cons_succ])
      rfl
     refine done_ (done_of HT_.out (by kernel_rfl)) ?_
     clear HT_ HW_
     have HE := hHeld.size
     have HBW := (KB1.out).trans (hHeld.mono KB1.out.size)
     clear hHeld HSS HX HD1 HS1 HP
     go_wp2_with fail
     go_ret
     exact ⟨by rw [HV.out]; rfl, HBW⟩
  ·go_wp2_with fail
   have HV := Lib.hid (show chkV nx l = 0 from if_pos ⟨by have := HH.out.1; omega, by have := HH.out.2.1; omega, by have := HH.out.2.2; have := HM.out; omega, fun q hq => KO.out q (by have := HJ.out; have := HM.out; omega)⟩)
   go_ret
   exact ⟨by rw [HV.out]; rfl, KB.out⟩
end Go.Proofs.YtcbiehinhmkjmaaDoor.NB
