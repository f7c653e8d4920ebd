import Derived.Test.YtcbiehinhmkjmaaDoorEB
import Derived.LoopTactic
import Derived.WalkMore
namespace Go.Proofs.YtcbiehinhmkjmaaDoor.PE
open Go.RowKit Go.Proofs.YtcbiehinhmkjmaaDoorW.PrintWords Go.Proofs.YtcbiehinhmkjmaaDoorW.PrintLast Go.Proofs.YtcbiehinhmkjmaaDoorW.PrintMore
set_option linter.unusedVariables false
set_option linter.unusedSimpArgs false
namespace L
theorem eqA45 (d : Nat) (w : World) (x0 y0 : Int) (x1 y1 : Bool) (x2 y2 : Int) (x3 y3 : Bool) (x4 y4 : Int) (x5 y5 : Bool) (x6 y6 : Int) :
    (Op.equalIn (d + 2) 45 (.agg #[.int .i64 x0, .bool x1, .int .i64 x2, .bool x3, .int .u16 x4, .bool x5, .int .i64 x6]) (.agg #[.int .i64 y0, .bool y1, .int .i64 y2, .bool y3, .int .u16 y4, .bool y5, .int .i64 y6])).run Tryd.prog w = .ok (x0 == y0 && (x1 == y1 && (x2 == y2 && (x3 == y3 && (x4 == y4 && (x5 == y5 && (x6 == y6))))))) w := by
  refine eqA_of Tryd.underlying45 (by kernel_rfl) ?_
  refine eqf_cons (by rfl) (by go_simp; rfl) (by go_simp; rfl) (by go_simp) ?_
  refine eqf_cons (by rfl) (by go_simp; rfl) (by go_simp; rfl) (by go_simp) ?_
  refine eqf_cons (by rfl) (by go_simp; rfl) (by go_simp; rfl) (by go_simp) ?_
  refine eqf_cons (by rfl) (by go_simp; rfl) (by go_simp; rfl) (by go_simp) ?_
  refine eqf_cons (by rfl) (by go_simp; rfl) (by go_simp; rfl) (by go_simp) ?_
  refine eqf_cons (by rfl) (by go_simp; rfl) (by go_simp; rfl) (by go_simp) ?_
  exact eqf_last (by rfl) (by go_simp; rfl) (by go_simp; rfl) (by go_simp)

def efEq (x y : Ef) : Bool := x.en == y.en && (x.ru == y.ru && (x.re == y.re && (x.si == y.si && (x.co == y.co && (x.lo == y.lo && x.as_ == y.as_)))))
theorem eqE45 (d : Nat) (w : World) (x0 y0 : Int) (x1 y1 : Bool) (x2 y2 : Int) (x3 y3 : Bool) (x4 y4 : Int) (x5 y5 : Bool) (x6 y6 : Int) :
    (Op.equalIn (d + 2) 45 (.agg #[.int .i64 x0, .bool x1, .int .i64 x2, .bool x3, .int .u16 x4, .bool x5, .int .i64 x6]) (.agg #[.int .i64 y0, .bool y1, .int .i64 y2, .bool y3, .int .u16 y4, .bool y5, .int .i64 y6])).run Tryd.prog w = .ok (efEq ⟨x0, x1, x2, x3, x4, x5, x6⟩ ⟨y0, y1, y2, y3, y4, y5, y6⟩) w :=
  eqA45 d w x0 y0 x1 y1 x2 y2 x3 y3 x4 y4 x5 y5 x6 y6
attribute [local go_sem high] eqE45
def RetI (x : Int) (w : World) (e : Ending) (w' : World) : Prop := e = .returned (.int .i64 x) ∧ Below w.heap.size w w'
def noneE (e : Ef) (k : Nat) : Prop := ∀ j : Nat, j < k → efEq (effV j 0 true true) e = false ∧ efEq (effV j e.co true true) e = false
def anyE (e : Ef) : Bool := (List.range 8).any fun j => efEq (effV j 0 true true) e || efEq (effV j e.co true true) e
theorem any_none {e : Ef} (h : noneE e 8) : anyE e = false := by
  unfold anyE
  rw [List.any_eq_false]
  intro j hj
  have hj' : j < 8 := by simpa using hj
  obtain ⟨h1, h2⟩ := h j hj'
  simp [h1, h2]
def innerN (e : Ef) (k j : Nat) : Prop := (0 < j → efEq (effV k 0 true true) e = false) ∧ (1 < j → efEq (effV k e.co true true) e = false)
theorem none_step {e : Ef} {k : Nat} (h : noneE e k) (hi : innerN e k 2) : noneE e (k + 1) := by
  intro j hj
  rcases Nat.lt_or_ge j k with h1 | h1
  · exact h j h1
  · obtain rfl : j = k := by omega
    exact ⟨hi.1 (by omega), hi.2 (by omega)⟩
theorem any_some {e : Ef} {k : Nat} (hk : k < 8) (h : efEq (effV k 0 true true) e = true ∨ efEq (effV k e.co true true) e = true) : anyE e = true := by
  unfold anyE
  rw [List.any_eq_true]
  exact ⟨k, by simpa using hk, by rcases h with h | h <;> simp [h]⟩
def chkI (b : Bool) : Int := if b = true then 0 else 311
def retB (n : Int) : Bool := decide (-4095 ≤ n) && decide (n ≤ 2147483647)
set_option maxHeartbeats 1000000 in
theorem ret_w (n : Int) (r : Bool) (h : retB n = r) (w : World) : Calls Tryd.prog 51 #[.int .i64 n] w fun e w' => e = .returned (.bool r) ∧ Below w.heap.size w w' := by
  unfold retB at h
  subst h
  by_cases h1 : -4095 ≤ n
  · go_enter Tryd.func51, Tryd.ntmps51
    go_wp2
    go_ret
    exact ⟨by simp [h1], Below.refl _ _⟩
  · have h2 : n < -4095 := by omega
    go_enter Tryd.func51, Tryd.ntmps51
    go_wp2
    go_ret
    exact ⟨by congr 2; rw [show decide (-4095 ≤ n) = false from decide_eq_false (by omega)]; rfl, Below.refl _ _⟩

set_option maxHeartbeats 1000000 in
theorem Check_plain (en : Int) (ru : Bool) (re : Int) (si : Bool) (co : Int) (lo : Bool) (as_ : Int) (w : World) (hr : Aside0 (retB re = true)) (he : efEq ⟨en, ru, re, si, co, lo, as_⟩ ⟨0, false, re, false, 0, false, 0⟩ = true) :
    Calls Tryd.prog 47 #[.agg #[.int .i64 en, .bool ru, .int .i64 re, .bool si, .int .u16 co, .bool lo, .int .i64 as_]] w (fun e w' => e = .returned (.int .i64 0) ∧ Below w.heap.size w w') := by
  go_enter Tryd.func47, Tryd.ntmps47
  go_wp2_with fail
  go_step3
  go_wp2_with fail
  refine (ret_w _ _ hr.out _).mono ?_
  rintro e w1 ⟨rfl, hb⟩
  obtain ⟨hk_e, hB⟩ := boxes1 hb
  clear hb
  have hc_e := blk_cell hk_e.out; have hf_e := blk_frozen hk_e.out; have hl_e := blk_lt hk_e.out
  have HB := Aside0.mk hB; clear hB
  go_wp2_with fail
  rw [Exit.noGoto_ret]
  go_ret
  exact ⟨rfl, by repeat (first | (with_reducible exact HB.out) | (with_reducible exact Below.refl _ _) | (with_reducible refine Below.alloc ?_ (by have hz := HB.out.size; simp only [World.size_alloc]; omega) _) | (with_reducible refine Below.setCell ?_ (by have hz := HB.out.size; first | (simp; done) | (simp; omega)) _) | (with_reducible refine below_drewN' ?_ _) | (with_reducible refine below_drew' ?_))⟩
end L
end Go.Proofs.YtcbiehinhmkjmaaDoor.PE
