import Derived.Test.YtbhkaohpfekbcaaDoorEE
namespace Go.Proofs.YtbhkaohpfekbcaaDoor.PE
open Go.RowKit Go.Proofs.YtbhkaohpfekbcaaDoorW.PrintWords Go.Proofs.YtbhkaohpfekbcaaDoorW.PrintLast Go.Proofs.YtbhkaohpfekbcaaDoorW.PrintMore
set_option linter.unusedVariables false
set_option linter.unusedSimpArgs false
namespace L
def crV (g : Bool) (n : Int) : Int := if retB n = true then (if g = true then (if n = 0 then 0 else 310) else 0) else 310
theorem chkV_cases (e : Ef) : chkV e = 0 ∨ chkV e = 311 := by
  unfold chkV chkI
  split
  · exact .inl rfl
  · split
    · exact .inl rfl
    · exact .inr rfl
theorem crV_cases (g : Bool) (n : Int) : crV g n = 0 ∨ crV g n = 310 := by
  unfold crV
  split
  · split
    · split
      · exact .inl rfl
      · exact .inr rfl
    · exact .inl rfl
  · exact .inr rfl
theorem Right_w (en : Int) (ru : Bool) (re : Int) (si : Bool) (co : Int) (lo : Bool) (as_ : Int) (w : World) : Calls Tryd.prog 13 #[.agg #[.int .i64 en, .bool ru, .int .i64 re, .bool si, .int .u16 co, .bool lo, .int .i64 as_]] w (RetBx (rightV ⟨en, ru, re, si, co, lo, as_⟩) w) := by
  cases ru <;> cases si <;> cases lo
  · exact Right_0 en re co as_ w
  · exact Right_1 en re co as_ w
  · exact Right_2 en re co as_ w
  · exact Right_3 en re co as_ w
  · exact Right_4 en re co as_ w
  · exact Right_5 en re co as_ w
  · exact Right_6 en re co as_ w
  · exact Right_7 en re co as_ w

theorem chk_iff (e : Ef) : chkV e = 0 ↔ ((retB e.re && efEq e ⟨0, false, e.re, false, 0, false, 0⟩) = true ∨ anyE e = true) := by
  unfold chkV chkI
  by_cases h : (retB e.re && efEq e ⟨0, false, e.re, false, 0, false, 0⟩) = true
  · simp [h]
  · rw [if_neg h]
    cases anyE e <;> simp [h]
theorem any_iff (e : Ef) : anyE e = true ↔ ∃ j : Nat, j < 8 ∧ (efEq (effV j 0 true true) e = true ∨ efEq (effV j e.co true true) e = true) := by
  unfold anyE
  rw [List.any_eq_true]
  constructor
  · rintro ⟨j, hj, h⟩
    exact ⟨j, by simpa using hj, by simpa using h⟩
  · rintro ⟨j, hj, h⟩
    exact ⟨j, by simpa using hj, by simpa using h⟩
theorem any8 (P : Nat → Prop) : (∃ j : Nat, j < 8 ∧ P j) ↔ (P 0 ∨ P 1 ∨ P 2 ∨ P 3 ∨ P 4 ∨ P 5 ∨ P 6 ∨ P 7) := by
  constructor
  · rintro ⟨j, hj, h⟩
    obtain rfl | rfl | rfl | rfl | rfl | rfl | rfl | rfl : j = 0 ∨ j = 1 ∨ j = 2 ∨ j = 3 ∨ j = 4 ∨ j = 5 ∨ j = 6 ∨ j = 7 := by omega
    all_goals simp [h]
  · rintro (h | h | h | h | h | h | h | h)
    · exact ⟨0, by omega, h⟩
    · exact ⟨1, by omega, h⟩
    · exact ⟨2, by omega, h⟩
    · exact ⟨3, by omega, h⟩
    · exact ⟨4, by omega, h⟩
    · exact ⟨5, by omega, h⟩
    · exact ⟨6, by omega, h⟩
    · exact ⟨7, by omega, h⟩

set_option maxHeartbeats 2000000 in
theorem right_0 (en re co as_ : Int) (h0 : 0 ≤ co) (h1 : co ≤ 65535) : rightV ⟨en, false, re, false, co, false, as_⟩ = true ↔ chkV ⟨en, false, re, false, co, false, as_⟩ = 0 := by
  rw [chk_iff, any_iff, any8 (fun j => efEq (effV j 0 true true) _ = true ∨ efEq (effV j _ true true) _ = true)]
  by_cases e0 : en = 0 <;> by_cases e1 : en = 1 <;> by_cases e2 : en = 2 <;> (try omega) <;> by_cases a0 : as_ = 0 <;> by_cases a1 : as_ = 1 <;> by_cases a2 : as_ = 2 <;> (try omega) <;> by_cases c0 : co = 0 <;> by_cases r0 : re = 0 <;> by_cases cl : co ≤ 4095
  all_goals simp [rightV, waysV, b2i, retB, efEq, effV, e0, e1, e2, a0, a1, a2, c0, r0, cl]
  all_goals omega

set_option maxHeartbeats 2000000 in
theorem right_1 (en re co as_ : Int) (h0 : 0 ≤ co) (h1 : co ≤ 65535) : rightV ⟨en, false, re, false, co, true, as_⟩ = true ↔ chkV ⟨en, false, re, false, co, true, as_⟩ = 0 := by
  rw [chk_iff, any_iff, any8 (fun j => efEq (effV j 0 true true) _ = true ∨ efEq (effV j _ true true) _ = true)]
  by_cases e0 : en = 0 <;> by_cases e1 : en = 1 <;> by_cases e2 : en = 2 <;> (try omega) <;> by_cases a0 : as_ = 0 <;> by_cases a1 : as_ = 1 <;> by_cases a2 : as_ = 2 <;> (try omega) <;> by_cases c0 : co = 0 <;> by_cases r0 : re = 0 <;> by_cases cl : co ≤ 4095
  all_goals simp [rightV, waysV, b2i, retB, efEq, effV, e0, e1, e2, a0, a1, a2, c0, r0, cl]
  all_goals omega

set_option maxHeartbeats 2000000 in
theorem right_2 (en re co as_ : Int) (h0 : 0 ≤ co) (h1 : co ≤ 65535) : rightV ⟨en, false, re, true, co, false, as_⟩ = true ↔ chkV ⟨en, false, re, true, co, false, as_⟩ = 0 := by
  rw [chk_iff, any_iff, any8 (fun j => efEq (effV j 0 true true) _ = true ∨ efEq (effV j _ true true) _ = true)]
  by_cases e0 : en = 0 <;> by_cases e1 : en = 1 <;> by_cases e2 : en = 2 <;> (try omega) <;> by_cases a0 : as_ = 0 <;> by_cases a1 : as_ = 1 <;> by_cases a2 : as_ = 2 <;> (try omega) <;> by_cases c0 : co = 0 <;> by_cases r0 : re = 0 <;> by_cases cl : co ≤ 4095
  all_goals simp [rightV, waysV, b2i, retB, efEq, effV, e0, e1, e2, a0, a1, a2, c0, r0, cl]
  all_goals omega

set_option maxHeartbeats 2000000 in
theorem right_3 (en re co as_ : Int) (h0 : 0 ≤ co) (h1 : co ≤ 65535) : rightV ⟨en, false, re, true, co, true, as_⟩ = true ↔ chkV ⟨en, false, re, true, co, true, as_⟩ = 0 := by
  rw [chk_iff, any_iff, any8 (fun j => efEq (effV j 0 true true) _ = true ∨ efEq (effV j _ true true) _ = true)]
  by_cases e0 : en = 0 <;> by_cases e1 : en = 1 <;> by_cases e2 : en = 2 <;> (try omega) <;> by_cases a0 : as_ = 0 <;> by_cases a1 : as_ = 1 <;> by_cases a2 : as_ = 2 <;> (try omega) <;> by_cases c0 : co = 0 <;> by_cases r0 : re = 0 <;> by_cases cl : co ≤ 4095
  all_goals simp [rightV, waysV, b2i, retB, efEq, effV, e0, e1, e2, a0, a1, a2, c0, r0, cl]
  all_goals omega

set_option maxHeartbeats 2000000 in
theorem right_4 (en re co as_ : Int) (h0 : 0 ≤ co) (h1 : co ≤ 65535) : rightV ⟨en, true, re, false, co, false, as_⟩ = true ↔ chkV ⟨en, true, re, false, co, false, as_⟩ = 0 := by
  rw [chk_iff, any_iff, any8 (fun j => efEq (effV j 0 true true) _ = true ∨ efEq (effV j _ true true) _ = true)]
  by_cases e0 : en = 0 <;> by_cases e1 : en = 1 <;> by_cases e2 : en = 2 <;> (try omega) <;> by_cases a0 : as_ = 0 <;> by_cases a1 : as_ = 1 <;> by_cases a2 : as_ = 2 <;> (try omega) <;> by_cases c0 : co = 0 <;> by_cases r0 : re = 0 <;> by_cases cl : co ≤ 4095
  all_goals simp [rightV, waysV, b2i, retB, efEq, effV, e0, e1, e2, a0, a1, a2, c0, r0, cl]
  all_goals omega

set_option maxHeartbeats 2000000 in
theorem right_5 (en re co as_ : Int) (h0 : 0 ≤ co) (h1 : co ≤ 65535) : rightV ⟨en, true, re, false, co, true, as_⟩ = true ↔ chkV ⟨en, true, re, false, co, true, as_⟩ = 0 := by
  rw [chk_iff, any_iff, any8 (fun j => efEq (effV j 0 true true) _ = true ∨ efEq (effV j _ true true) _ = true)]
  by_cases e0 : en = 0 <;> by_cases e1 : en = 1 <;> by_cases e2 : en = 2 <;> (try omega) <;> by_cases a0 : as_ = 0 <;> by_cases a1 : as_ = 1 <;> by_cases a2 : as_ = 2 <;> (try omega) <;> by_cases c0 : co = 0 <;> by_cases r0 : re = 0 <;> by_cases cl : co ≤ 4095
  all_goals simp [rightV, waysV, b2i, retB, efEq, effV, e0, e1, e2, a0, a1, a2, c0, r0, cl]
  all_goals omega

set_option maxHeartbeats 2000000 in
theorem right_6 (en re co as_ : Int) (h0 : 0 ≤ co) (h1 : co ≤ 65535) : rightV ⟨en, true, re, true, co, false, as_⟩ = true ↔ chkV ⟨en, true, re, true, co, false, as_⟩ = 0 := by
  rw [chk_iff, any_iff, any8 (fun j => efEq (effV j 0 true true) _ = true ∨ efEq (effV j _ true true) _ = true)]
  by_cases e0 : en = 0 <;> by_cases e1 : en = 1 <;> by_cases e2 : en = 2 <;> (try omega) <;> by_cases a0 : as_ = 0 <;> by_cases a1 : as_ = 1 <;> by_cases a2 : as_ = 2 <;> (try omega) <;> by_cases c0 : co = 0 <;> by_cases r0 : re = 0 <;> by_cases cl : co ≤ 4095
  all_goals simp [rightV, waysV, b2i, retB, efEq, effV, e0, e1, e2, a0, a1, a2, c0, r0, cl]
  all_goals omega

set_option maxHeartbeats 2000000 in
theorem right_7 (en re co as_ : Int) (h0 : 0 ≤ co) (h1 : co ≤ 65535) : rightV ⟨en, true, re, true, co, true, as_⟩ = true ↔ chkV ⟨en, true, re, true, co, true, as_⟩ = 0 := by
  rw [chk_iff, any_iff, any8 (fun j => efEq (effV j 0 true true) _ = true ∨ efEq (effV j _ true true) _ = true)]
  by_cases e0 : en = 0 <;> by_cases e1 : en = 1 <;> by_cases e2 : en = 2 <;> (try omega) <;> by_cases a0 : as_ = 0 <;> by_cases a1 : as_ = 1 <;> by_cases a2 : as_ = 2 <;> (try omega) <;> by_cases c0 : co = 0 <;> by_cases r0 : re = 0 <;> by_cases cl : co ≤ 4095
  all_goals simp [rightV, waysV, b2i, retB, efEq, effV, e0, e1, e2, a0, a1, a2, c0, r0, cl]
  all_goals omega

theorem right_chk (e : Ef) (h0 : 0 ≤ e.co) (h1 : e.co ≤ 65535) : rightV e = decide (chkV e = 0) := by
  obtain ⟨en, ru, re, si, co, lo, as_⟩ := e
  rw [Bool.eq_iff_iff, decide_eq_true_iff]
  cases ru <;> cases si <;> cases lo
  · exact right_0 en re co as_ h0 h1
  · exact right_1 en re co as_ h0 h1
  · exact right_2 en re co as_ h0 h1
  · exact right_3 en re co as_ h0 h1
  · exact right_4 en re co as_ h0 h1
  · exact right_5 en re co as_ h0 h1
  · exact right_6 en re co as_ h0 h1
  · exact right_7 en re co as_ h0 h1
theorem Tab.alloc {w : World} (h : Tab w) (o : Obj) : Tab (w.alloc o) := h.below ((Below.refl _ _).alloc (Nat.le_refl _) o)
theorem Tab.drewN {w : World} (h : Tab w) (n : Nat) : Tab (w.drewN n) := h.below (pw_below_drewN (Below.refl _ _) n)
theorem Tab.drew {w : World} (h : Tab w) : Tab w.drew := h.below (below_drew (Below.refl _ _))
theorem Tab.set {w W : World} {p : Addr} (h : Tab W) (hT : Aside0 (Tab w)) (hg : Aside0 (w.heap.size ≤ p.block)) (v : Value) : Tab (W.setCell p v) :=
  ⟨by simpa [World.setCell] using h.1, fun i => by
    have hp := hT.out.1
    have hq := hg.out
    have hb : Below (p.block) W (W.setCell p v) := (Below.refl _ _).setCell (Nat.le_refl _) v
    exact (hb.cell (p := ⟨0, i, none⟩) (show 0 < p.block by omega)).trans (h.2 i)⟩
end L
end Go.Proofs.YtbhkaohpfekbcaaDoor.PE
