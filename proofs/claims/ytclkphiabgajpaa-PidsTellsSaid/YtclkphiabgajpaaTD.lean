import Derived.Test.YtclkphiabgajpaaTC
import Derived.RangeFuncNested
import Derived.RangeFuncBound
import Derived.RangeFuncCalls
import Derived.RangeFuncLeaves
import Derived.RangeFuncBox
import Derived.Shelf.Abstract
import Derived.Shelf.RegionOpen
import Derived.WalkKit
import Derived.OwnWalkIn
import Derived.TacticsInMore
import Derived.LoopNIn
import Derived.LoopIn
import Derived.Outline
import Derived.Lib.Hide
namespace Go.Proofs.Ytclkphiabgajpaa.TA
open Go.RowKit Go.Shelf Go.Proofs.YtclkphiabgajpaaW.PrintWords Go.Proofs.YtclkphiabgajpaaW.PrintLast Go.Proofs.YtclkphiabgajpaaW.PrintMore
set_option linter.unusedVariables false
set_option linter.unusedSimpArgs false
attribute [local go_sem] Oper.semAt_some

/-- The pids behind the pointer, and their row. -/
def Pd (Bp : Nat) (last : Int) (A : Option Addr) (c : Nat) (used : List Int) (W : World) : Prop := W.heap[Bp]? = some (.cells #[.int .i64 last, .slice A used.length c] 24 (0, 0)) ∧ Kd.C (Kd.int .i64) W A used.length used
theorem Pd.below {Bp : Nat} {last : Int} {A : Option Addr} {c : Nat} {used : List Int} {W W' : World} (h : Pd Bp last A c used W) (hb : Below W.heap.size W W') : Pd Bp last A c used W' := ⟨(hb.block _ (blk_lt h.1)).trans h.1, Kd.C_below h.2 hb⟩
theorem fst_below {B Bp : Nat} {x : Int} {ok : Bool} {W W' : World} (h : Fst B Bp x ok W) (hb : Below W.heap.size W W') : Fst B Bp x ok W' :=
  ⟨pw_cell_below hb h.1, pw_cell_below hb h.2.1, pw_cell_below hb h.2.2.1, (hb.frozen (p := ⟨B + 1, 0, none⟩) (World.block_lt_of_cell? _ _ h.2.1)).trans h.2.2.2.1, (hb.frozen (p := ⟨B + 2, 0, none⟩) (World.block_lt_of_cell? _ _ h.2.2.1)).trans h.2.2.2.2⟩
def firstR (o : Option Int) : Int × Bool := match o with | some x => (x, true) | none => (0, false)
theorem find_prefix {p : Int → Bool} {q l : List Int} {x : Int} (h : q ++ [x] <+: l) (hq : ∀ y ∈ q, p y = false) (hx : p x = true) : l.find? p = some x := by
  obtain ⟨t, rfl⟩ := h
  have hn : List.find? p q = none := List.find?_eq_none.2 (fun y hy => by rw [hq y hy]; simp)
  rw [List.append_assoc, List.find?_append, hn]
  simp [hx]
set_option maxRecDepth 100000 in
set_option maxHeartbeats 4000000 in
theorem first_w (Bi Bp : Nat) (last : Int) (A : Option Addr) (c : Nat) (used : List Int) (h00 : 0 ≤ last) (h20 : last ≤ 20) (hl : used.length ≤ 30) (hc : used.length ≤ c) (w : World) (hBi : Bi < w.heap.size) (hci : w.cell? ⟨Bi, 0, none⟩ = some (.int .i64 last)) (hP : Pd Bp last A c used w) :
    Calls Try.prog 21 #[.func (.func 30) #[] #[.pointer (some ⟨Bi, 0, none⟩)], .func (.func 23) #[] #[.pointer (some ⟨Bp, 0, none⟩)]] w fun e w' => e = .returned (.tuple #[.int .i64 (firstR (firstV last used)).1, .bool (firstR (firstV last used)).2]) ∧ Below w.heap.size w w' := by
  refine (callsIn_wide (n := 5)).1 ?_
  refine callsIn_of_wp_marks Try.func21 rfl trivial ?_ rfl
  simp only [Try.ntmps21, List.size_toArray, List.length_cons, List.length_nil, Nat.reduceAdd, Nat.reduceSub, Array.replicate_succ, Array.replicate_zero, List.push_toArray, List.append_toArray, List.nil_append, List.cons_append]
  gi_wp2
  have hB0 : Below w.heap.size w (((w.alloc (.cells #[.func (.func 23) #[] #[.pointer (some ⟨Bp, 0, none⟩)]] 45)).alloc (.cells #[.int .i64 0] 3)).alloc (.cells #[.bool false] 4)) := (((Below.refl _ w).alloc (Nat.le_refl _) _).alloc (by simp) _).alloc (by simp; omega) _
  refine wpIn_rangeFunc_ownF rfl (by omega) (gf := 30) (lb := #[.pointer (some ⟨Bi, 0, none⟩)]) rfl trivial (enters_of Try.func30 (by kernel_rfl) rfl)
    (around_stops _ (by omega) Bi w.heap.size last h00 h20 _ hBi (by simp; omega) ((hB0.cell (p := ⟨Bi, 0, none⟩) hBi).trans hci)) belowK_t (belowK_b (by simp; omega)) (Below.refl _ _) (fun _ => rfl)
    (fun pre W => (Fst w.heap.size Bp 0 false W ∧ (∀ y ∈ pre, (!decide (y ∈ used)) = false)) ∧ Below w.heap.size w W)
    (fun cd pre W => (∃ q x, cd = .ret ∧ pre = q ++ [x] ∧ (∀ y ∈ q, (!decide (y ∈ used)) = false) ∧ (!decide (x ∈ used)) = true ∧ Fst w.heap.size Bp x true W) ∧ Below w.heap.size w W)
    (OwnFrom.and (OwnFrom.and (Own.from (fst_own _ _ _ _) _) (ownFrom_pure _ _)) (ownFrom_below (Nat.le_refl _) (by simp; omega)))
    (fun cd => OwnFrom.and (Own.from (fun s A B row hs hg hr => by
      obtain ⟨q, x, h1, h2, h3, h4, h5⟩ := hs
      exact ⟨q, x, h1, h2, h3, h4, fst_own _ _ _ _ s A B row h5 hg hr⟩) _) (ownFrom_below (Nat.le_refl _) (by simp; omega)))
    ⟨⟨⟨by go_simp, by go_simp, by go_simp, by go_simp, by go_simp⟩, fun y hy => by simp at hy⟩, hB0⟩
    (fun x => { tmps := #[.func (.func 30) #[] #[.pointer (some ⟨Bi, 0, none⟩)], .func (.func 23) #[] #[.pointer (some ⟨Bp, 0, none⟩)], undef, .pointer (some ⟨w.heap.size, 0, none⟩), .pointer (some ⟨w.heap.size + 1, 0, none⟩), .pointer (some ⟨w.heap.size + 2, 0, none⟩), .int .i64 x, .func (.func 30) #[] #[.pointer (some ⟨Bi, 0, none⟩)], .int .i64 x, undef, undef, undef, undef, undef], defers := [] }) ?assign ?body ?done ?stop
  case assign =>
    intro l x W K hK
    gi_wp2
    exact hK
  case body =>
    rintro l pre x W ⟨⟨hF, hpre⟩, hB⟩ hlen
    have hz := hB.size
    have hPW := Lib.hid (hP.below hB)
    have HPRE := Lib.hid hpre
    have hf := hF
    obtain ⟨h3, h4, h5, f4, f5⟩ := hF
    clear hpre hlen hP hci hB0
    cases hr : (!decide (x ∈ used))
    · have HR := Lib.hid hr
      clear hr
      gi_wp2_with (refine ⟨trivial, ?_⟩; gi_at_call 23; refine (CallsIn.inRound l (callsIn_wide.2 (free_w Bp last x A c used _ HR.out hl _ hPW.out.1 hPW.out.2 hc))).mono ?_; rintro e w1 ⟨rfl, hb⟩)
      all_goals (try go_bits)
      exact ⟨keepsOthers_below hb, hb.mono hz, ⟨fst_below hf hb, fun y hy => by
        rcases List.mem_append.1 hy with hy | hy
        · exact HPRE.out y hy
        · rw [List.mem_singleton.1 hy]; exact HR.out⟩, hB.trans (hb.mono hz)⟩
    · have HR := Lib.hid hr
      clear hr
      gi_wp2_with (refine ⟨trivial, ?_⟩; gi_at_call 23; refine (CallsIn.inRound l (callsIn_wide.2 (free_w Bp last x A c used _ HR.out hl _ hPW.out.1 hPW.out.2 hc))).mono ?_; rintro e w1 ⟨rfl, hb⟩; obtain ⟨h3, h4, h5, f4, f5⟩ := fst_below hf hb)
      all_goals (try go_bits)
      refine ⟨?_, ⟨pre, x, rfl, rfl, HPRE.out, HR.out, ⟨?_, ?_, ?_, ?_, ?_⟩⟩, ?_⟩
      · (repeat (first | exact keepsOthers_below hb | refine KeepsOthers.trans ?_ (KeepsOthers.setCell _ _ _)))
      all_goals first | (go_simp; done) | (simp [*]; done) | ((repeat (first | exact hB.trans (hb.mono hz) | refine Below.setCell ?_ (by simp; try omega) _)); done)
  case done =>
    rintro D ys W hD rfl ⟨⟨⟨h3, h4, h5, f4, f5⟩, hall⟩, hB⟩ hK
    have hv : firstV last used = none := by
      unfold firstV
      rw [List.find?_eq_none]
      intro y hy
      rw [hall y hy]; simp
    have HV := Lib.hid hv
    clear hP hci hB0 hall hv
    gi_wp2
    have hK' := ((KeepsOthers.setCell W ⟨w.heap.size + 1, 0, none⟩ (.int .i64 0)).trans (KeepsOthers.setCell _ ⟨w.heap.size + 1 + 1, 0, none⟩ (.bool false))).same D _ hK rfl
    have hBF : Below w.heap.size w ((W.setCell ⟨w.heap.size + 1, 0, none⟩ (.int .i64 0)).setCell ⟨w.heap.size + 1 + 1, 0, none⟩ (.bool false)) := (hB.setCell (p := ⟨w.heap.size + 1, 0, none⟩) (by simp) _).setCell (p := ⟨w.heap.size + 1 + 1, 0, none⟩) (by simp; omega) _
    have q4 : ((W.setCell ⟨w.heap.size + 1, 0, none⟩ (.int .i64 0)).setCell ⟨w.heap.size + 1 + 1, 0, none⟩ (.bool false)).cell? ⟨w.heap.size + 1, 0, none⟩ = some (.int .i64 0) := by go_simp
    have q5 : ((W.setCell ⟨w.heap.size + 1, 0, none⟩ (.int .i64 0)).setCell ⟨w.heap.size + 1 + 1, 0, none⟩ (.bool false)).cell? ⟨w.heap.size + 1 + 1, 0, none⟩ = some (.bool false) := by go_simp
    clear h3 h4 h5 f4 f5 hB
    generalize (W.setCell ⟨w.heap.size + 1, 0, none⟩ (.int .i64 0)).setCell ⟨w.heap.size + 1 + 1, 0, none⟩ (.bool false) = WF at hK' hBF q4 q5 ⊢
    refine ⟨by simp, .inl ⟨_, _, rfl, run_takeDeferred hK', ?_⟩⟩
    have p4 := cell_kept q4 (grownBy_putObj' _ D (.deferred none)) (fun r e => by cases e; exact ⟨_, hK', rfl⟩)
    have p5 := cell_kept q5 (grownBy_putObj' _ D (.deferred none)) (fun r e => by cases e; exact ⟨_, hK', rfl⟩)
    refine ⟨.tuple #[.int .i64 0, .bool false], ?_, by rw [HV.out]; rfl, hBF.trans (belowK_b (w := w) (Nat.le_refl _) _ D _ _ (by simp at hD; omega) hK' rfl rfl)⟩
    simp [results, Try.f21, go_sem, p4, p5]
  case stop =>
    rintro D cd pre W hD hSp ⟨⟨q, x, rfl, rfl, hq, hx, h3, h4, h5, f4, f5⟩, hB⟩ hK
    have hv : firstV last used = some x := find_prefix hSp hq hx
    have HV := Lib.hid hv
    clear hP hci hB0 hv hq hx hSp
    gi_wp2
    refine ⟨by simp, .inl ⟨_, _, rfl, run_takeDeferred hK, ?_⟩⟩
    have p4 := cell_kept h4 (grownBy_putObj' _ D (.deferred none)) (fun r e => by cases e; exact ⟨_, hK, rfl⟩)
    have p5 := cell_kept h5 (grownBy_putObj' _ D (.deferred none)) (fun r e => by cases e; exact ⟨_, hK, rfl⟩)
    refine ⟨.tuple #[.int .i64 x, .bool true], ?_, by rw [HV.out]; rfl, hB.trans (belowK_b (w := w) (Nat.le_refl _) _ D _ _ (by simp at hD; omega) hK rfl rfl)⟩
    simp [results, Try.f21, go_sem, p4, p5]
end Go.Proofs.Ytclkphiabgajpaa.TA
