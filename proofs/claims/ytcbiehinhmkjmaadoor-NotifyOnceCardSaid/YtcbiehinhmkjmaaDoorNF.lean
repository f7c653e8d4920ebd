import Derived.Test.YtcbiehinhmkjmaaDoorNE
namespace Go.Proofs.YtcbiehinhmkjmaaDoor.NB
open Go.RowKit Go.Proofs.YtcbiehinhmkjmaaDoorW.PrintWords Go.Proofs.YtcbiehinhmkjmaaDoorW.PrintLast Go.Proofs.YtcbiehinhmkjmaaDoorW.PrintMore
open Go.Proofs.YtcbiehinhmkjmaaDoor.PB
set_option linter.unusedVariables false
set_option linter.unusedSimpArgs false

/-- A desk at block X; its row lies in a block not below B. -/
abbrev Desk (W : World) (B X : Nat) (nx : Int) (v : Value) (l : List S36) : Prop := W.heap[X]? = some (deskC nx v) ∧ Kd.R k36 36 W B (fun k => B ≤ k) v l
/-- Below B nothing has turned but what S names. -/
structure Stay (S : Nat → Prop) (B : Nat) (W W' : World) : Prop where
  os : W'.os = W.os
  tape : W'.tape = W.tape
  output : W'.output = W.output
  size : W.heap.size ≤ W'.heap.size
  block : ∀ q, q < B → ¬ S q → W'.heap[q]? = W.heap[q]?
section
variable {S : Nat → Prop} {B X : Nat} {W W' W'' : World} {nx : Int} {v : Value} {l : List S36}
theorem Stay.below (h : Below W.heap.size W W') (hB : B ≤ W.heap.size) : Stay S B W W' := ⟨h.os, h.tape, h.output, h.size, fun q hq _ => h.block q (Nat.lt_of_lt_of_le hq hB)⟩
theorem Stay.trans (h : Stay S B W W') (k : Stay S B W' W'') : Stay S B W W'' := ⟨k.os.trans h.os, k.tape.trans h.tape, k.output.trans h.output, Nat.le_trans h.size k.size, fun q hq hs => (k.block q hq hs).trans (h.block q hq hs)⟩
theorem Stay.set (h : Stay S B W W') (p : Addr) (u : Value) (hp : p.block < B → S p.block) : Stay S B W (W'.setCell p u) :=
  ⟨h.os, h.tape, h.output, by rw [World.size_setCell]; exact h.size, fun q hq hs => (Below.heap_setCell W' p u q (fun e => hs (by rw [e]; exact hp (by rw [← e]; exact hq)))).trans (h.block q hq hs)⟩
theorem Stay.but {g : Nat} (h : Stay S B W W') (k : But g W' W'') (hg : B ≤ g) : Stay S B W W'' :=
  ⟨k.os.trans h.os, k.tape.trans h.tape, k.output.trans h.output, by rw [k.size]; exact h.size, fun q hq hs => (k.block q (by omega)).trans (h.block q hq hs)⟩
theorem Stay.drew (h : Stay S B W W') : Stay S B W W'.drew := ⟨h.os, h.tape, h.output, h.size, h.block⟩
theorem Stay.grown (h : Stay S B W W') {row : Option Nat} (k : W'.grownBy W'' row) (hr : ∀ g, row = some g → B ≤ g) (hB : B ≤ W'.heap.size) : Stay S B W W'' :=
  ⟨k.os.trans h.os, k.tape.trans h.tape, k.output.trans h.output, Nat.le_trans h.size k.size, fun q hq hs => (k.block q (by omega) (fun e => by have := hr q e.symm; omega)).trans (h.block q hq hs)⟩
theorem Stay.imp {S' : Nat → Prop} (h : Stay S B W W') (hs : ∀ q, S q → S' q) : Stay S' B W W' := ⟨h.os, h.tape, h.output, h.size, fun q hq hn => h.block q hq (fun k => hn (hs q k))⟩
theorem Stay.lower {B' : Nat} (h : Stay S B W W') (hB : B' ≤ B) : Stay S B' W W' := ⟨h.os, h.tape, h.output, h.size, fun q hq hn => h.block q (by omega) hn⟩
theorem Desk.below (h : Desk W B X nx v l) (hb : Below W.heap.size W W') : Desk W' B X nx v l := ⟨(hb.block X (blk_lt h.1)).trans h.1, Kd.R_below h.2 hb⟩
theorem Desk.set (h : Desk W B X nx v l) (p : Addr) (u : Value) (hp : p.block < B) (hX : X ≠ p.block) : Desk (W.setCell p u) B X nx v l := ⟨(Below.heap_setCell W p u X hX).trans h.1, Kd.R_far h.2 (fun k hk e => by omega) u⟩
end

def cut (l : List S36) (k : Nat) : List S36 := l.take k ++ l.drop (k + 1)
/-- The notices without thread t's. -/
def goneL (l : List S36) (t : Int) : List S36 := if idxV (fun x => x.f1 == t) l = -1 then l else cut l (idxV (fun x => x.f1 == t) l).toNat
def goneB (l : List S36) (t : Int) : Bool := !decide (idxV (fun x => x.f1 == t) l = -1)
set_option maxRecDepth 100000 in
set_option maxHeartbeats 4000000 in
theorem gone1_w (B X C D : Nat) (nx : Int) (v : Value) (l : List S36) (t : Int) (W : World) (hXB : X < B) (hB : B ≤ W.heap.size) (hDX : D ≠ X) (hDB : D < B) (hl : l.length ≤ 100) (hD : Desk W B X nx v l) (hC : W.heap[C]? = some (.cells #[.int .i64 t] 3 (0, 0))) (hW : W.heap[D]? = some (.cells #[.bool false] 4 (0, 0))) :
    Calls Tryd.prog 38 #[.pointer (some ⟨X, 0, none⟩), .pointer (some ⟨C, 0, none⟩), .pointer (some ⟨D, 0, none⟩)] W fun e W' => e = .returned (.int .i64 0) ∧ (∃ v', Desk W' B X nx v' (goneL l t)) ∧ W'.heap[D]? = some (.cells #[.bool (goneB l t)] 4 (0, 0)) ∧ Stay (fun q => q = X ∨ q = D) B W W' := by
  obtain ⟨A, c, rfl⟩ := Kd.R_slice hD.2
  obtain ⟨m, hm⟩ : ∃ m, m = l.length := ⟨_, rfl⟩
  have HM := Lib.hid hm
  have HD := Lib.hid hD
  have HW := Lib.hid hW
  have hx0 := blk_cell hD.1 0
  have hx1 := blk_cell hD.1 1
  have hxl := blk_lt hD.1
  have hc0 := blk_cell hC 0
  have HC := Lib.hid (Kd.R_reads' hD.2).2.2
  rw [← hm] at HD hx0 hx1
  clear hC hD hm hW
  rcases idx_cases (fun x => x.f1 == t) l with ⟨hI, _⟩ | ⟨k, hk, hI, _, _⟩
  · have HI := Lib.hid hI
    have HG := Lib.hid (show goneL l t = l from if_pos hI)
    have HGB := Lib.hid (show goneB l t = false by unfold goneB; rw [hI]; rfl)
    clear hI
    go_enter Tryd.func38, Tryd.ntmps38
    go_wp2_with fail
    go_still_tail 4, (by kernel_rfl)
    change wpList _ _ _ _ _ W.drew
    go_wp2_with (first | (go_at_call 28; (rw [HM.out]); (with_reducible refine (of_w nx A c l t (by omega) _ (Kd.C_drew HC.out)).mono ?_); rintro e w2 ⟨he, hb⟩; rw [HI.out] at he; subst he; have HB2 := Lib.hid ((below_drew (Below.refl _ W)).trans hb); clear hb hx0 hx1 hc0))
    go_ret
    refine ⟨rfl, ⟨_, by rw [HG.out]; exact HD.out.below HB2.out⟩, by rw [HGB.out]; exact (HB2.out.block _ (blk_lt HW.out)).trans HW.out, Stay.below HB2.out hB⟩
  · have hpos : 0 < l.length := by omega
    obtain ⟨g, cap, hv, hbg, hgs, _⟩ := Kd.R_form HD.out.2 hpos
    injection hv with hA hml hcap
    clear hml
    subst hA hcap
    have HI := Lib.hid hI
    have hne : ¬ (k : Int) = -1 := by omega
    have HG := Lib.hid (show goneL l t = cut l k by unfold goneL; rw [hI, if_neg hne]; simp)
    have HGB := Lib.hid (show goneB l t = true by unfold goneB; rw [hI, decide_eq_false hne]; rfl)
    clear hI
    obtain ⟨j, hj⟩ : ∃ j, j = k + 1 := ⟨_, rfl⟩
    have hwj : wrap64 ((k : Int) + 1) = (j : Int) := by rw [hj]; unfold wrap64; omega
    have hkj : k < j := by omega
    have hjm : j ≤ m := by have := HM.out; omega
    have HJ := Lib.hid hj
    clear hj hne hpos hk
    have hk0 : (0 : Int) ≤ (k : Int) := by omega
    go_enter Tryd.func38, Tryd.ntmps38
    go_wp2_with fail
    go_still_tail 4, (by kernel_rfl)
    change wpList _ _ _ _ _ W.drew
    go_wp2_with (first | (go_at_call 28; (rw [HM.out]); (with_reducible refine (of_w nx _ c l t (by omega) _ (Kd.C_drew HC.out)).mono ?_); rintro e w2 ⟨he, hb⟩; rw [HI.out] at he; subst he; have HB2 := Lib.hid ((below_drew (Below.refl _ W)).trans hb); clear hb hx0 hx1 hc0; have HD2 := Lib.hid (HD.out.below HB2.out); have y0 := blk_cell HD2.out.1 0; have y1 := blk_cell HD2.out.1 1) | (go_at_call 36; (with_reducible refine (delete_w g c m k j l hkj HJ.out hjm B _ _ HD2.out.2).mono ?_); rintro e w3 ⟨rfl, hR3, hb3⟩; have HX3 := Lib.hid ((hb3.block X (by omega)).trans HD2.out.1); have HW3 := Lib.hid ((hb3.block D (by omega)).trans ((HB2.out.block _ (blk_lt HW.out)).trans HW.out)); have HS3 := Lib.hid ((Stay.below (S := fun q => q = X ∨ q = D) HB2.out hB).but hb3 hbg); have HR3 := Lib.hid hR3; clear hR3 hb3 y0 y1; have z0 := blk_cell HX3.out 0; have z1 := blk_cell HX3.out 1; have zf1 := blk_frozen HX3.out 1; have zl := blk_lt HX3.out; have d0 := blk_cell HW3.out 0; have df0 := blk_frozen HW3.out 0; have dl := blk_lt HW3.out))
    go_ret
    have hcut : cut l k = l.take k ++ l.drop j := by rw [HJ.out]; rfl
    refine ⟨rfl, ⟨.slice (some ⟨g, 0, none⟩) (m - 1) c, by rw [HG.out, hcut]; exact Desk.set ⟨blk_put HX3.out 1 _ rfl, Kd.R_far HR3.out (fun q hq e => by dsimp only at e; omega) _⟩ _ _ hDB (fun e => hDX e.symm)⟩, by rw [HGB.out]; exact blk_put (blk_far HW3.out hDX _) 0 _ rfl, (HS3.out.set _ _ (fun _ => Or.inl rfl)).set _ _ (fun _ => Or.inr rfl)⟩
end Go.Proofs.YtcbiehinhmkjmaaDoor.NB
