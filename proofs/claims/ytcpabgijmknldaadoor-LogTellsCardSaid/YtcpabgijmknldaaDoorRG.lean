import Derived.Test.YtcpabgijmknldaaDoorPEx0
import Derived.RangeFuncNested
import Derived.RangeFuncBound
import Derived.RangeFuncCalls
import Derived.RangeFuncLeaves
import Derived.RangeFuncBox
import Derived.Shelf.Abstract
import Derived.Shelf.RegionOpen
import Derived.WalkKit
import Derived.OwnWalkIn
import Derived.TacticsInMore
import Derived.LoopNIn
import Derived.LoopIn
import Derived.Outline
import Derived.Lib.Hide
namespace Go.Proofs.YtcpabgijmknldaaDoor.RG
open Go.RowKit Go.Shelf Go.Proofs.YtcpabgijmknldaaDoorW.PrintWords Go.Proofs.YtcpabgijmknldaaDoorW.PrintLast Go.Proofs.YtcpabgijmknldaaDoorW.PrintMore
set_option linter.unusedVariables false
set_option linter.unusedSimpArgs false

/-- What an iterator's own steps (Ok) leave true. -/
def Abide {β : Type} (Ok : World → World → Prop) (I : β → World → Prop) : Prop := ∀ s X Y, I s X → Ok X Y → I s Y
/-- The contract of an iterator that does steps Ok of its own, in a world W. -/
def SeqW {α : Type} (F : Fence) (n : Nat) (P : Program) (g : Nat) (lb : Array Value) (encs : α → Array Value) (Ok Kp : World → World → Prop) (S Sp : List α → Prop) (N : Nat) (W : World) : Prop :=
  ∀ (l : Nat) (J Jx : List α → World → Prop), Abide Ok J → Abide Ok Jx →
    (∀ pre x V, J pre V → pre.length < N → YieldAt F (n - 1) P l (encs x) V fun e V' => (e = .returned (.bool true) ∧ J (pre ++ [x]) V' ∧ Kp V V') ∨ (e = .returned (.bool false) ∧ Jx (pre ++ [x]) V' ∧ Kp V V')) →
    J [] W → CallsIn F n P g (#[.func (.yield l) #[] #[]] ++ lb) W fun e V' => (∃ v, e = .returned v) ∧ ((∃ xs, S xs ∧ J xs V') ∨ (∃ pre, Sp pre ∧ Jx pre V'))
theorem RoundIn_any {m m' : Nat} {P : Program} {l l2 : Nat} {f : FuncId} {tmps : Array Value} {assign body : Code} {w : World} {R : Ending → World → Prop} (h : RoundIn Fence.wide m P l f tmps assign body w R) : RoundIn (Fence.wide.inRound l2) m' P l f tmps assign body w R :=
  ⟨h.1, fun c cs _ => h.2 c cs (fun d hd => by cases hd)⟩
theorem RoundIn_free {m m' : Nat} {P : Program} {l : Nat} {f : FuncId} {tmps : Array Value} {assign body : Code} {w : World} {R : Ending → World → Prop} (h : RoundIn Fence.wide m P l f tmps assign body w R) : RoundIn Fence.wide m' P l f tmps assign body w R :=
  ⟨h.1, fun c cs _ => h.2 c cs (fun d hd => by cases hd)⟩
/-- How a round's body may be left; the world V at the body's begin, Kp from the round's begin V0 on. -/
def leftBy {α : Type} (B : Nat) (Kp : World → World → Prop) (I : List α → World → Prop) (Ix : Code → List α → World → Prop) (xs : List α) (V0 V : World) : Exit → Act → World → Prop
  | .normal, _, V' => KeepsFrom B V V' ∧ Kp V0 V' ∧ I xs V'
  | .ret, _, V' => KeepsFrom B V V' ∧ Kp V0 V' ∧ Ix .ret xs V'
  | .exit id, _, V' => KeepsFrom B V V' ∧ Kp V0 V' ∧ Ix (.exit id) xs V'
  | .goto t, _, V' => KeepsFrom B V V' ∧ Kp V0 V' ∧ Ix (.goto t) xs V'
  | .panic _, _, _ => False
  | .outgrown, _, _ => False
section
variable {F : Fence} {n : Nat} {P : Program}
/-- The loop's record, in a state. -/
def recOf (fn : FuncId) (tmps : Array Value) (ps : Array Tmp) (assign body : Code) (D : Nat) (st : LoopState) (pe : Option Code) : Loop := { state := st, pending := pe, fn, tmps, params := ps, assign, body, defers := D }
/-- The two blocks of the law's own. -/
def Books (D : Nat) (L : Loop) (W : World) : Prop := W.heap[D + 1]? = some (.loop L) ∧ W.heap[D]? = some (.deferred (some []))
theorem Books.lt {D : Nat} {L : Loop} {W : World} (h : Books D L W) : D + 1 < W.heap.size := (Array.getElem?_eq_some_iff.1 h.1).1
theorem Books.put {D : Nat} {L : Loop} {W : World} (h : Books D L W) (L' : Loop) : Books D L' (W.putObj (D + 1) (.loop L')) := ⟨World.putObj_heap_same h.lt, (World.putObj_heap_other (by omega)).trans h.2⟩
theorem Books.keeps {D B : Nat} {L : Loop} {V W : World} (h : Books D L V) (hk : KeepsFrom B V W) (hB : B ≤ D) : Books D L W := ⟨hk.same _ _ (by omega) h.1 rfl, hk.same _ _ hB h.2 rfl⟩
theorem wp_rangeW {α : Type} {g : Operand} {ps : Array Tmp} {assign body : Code} {Q : Exit → Act → World → Prop} {a : Act} {w : World} (hro : F.round = none) (h1 : 1 ≤ n) {gf : Nat} {lb : Array Value}
    (hg : a.eval g = .func (.func gf) #[] lb) (hFg : F.fn gf) (eg : ∀ args w, (callFunc gf args).run P w = .ok (.enter gf args) w) {encs : α → Array Value} (hps : ∀ x, (encs x).size = ps.size)
    {Ok Kp : World → World → Prop} {S Sp : List α → Prop} {N : Nat} (hseq : ∀ rec : Loop, SeqW F (n - 1) P gf lb encs Ok Kp S Sp N ((w.alloc (.deferred (some []))).alloc (.loop rec)))
    (hKb : ∀ (V0 V : World) (o' : Obj), Kp V0 V → (∃ L, V.heap[w.heap.size + 1]? = some (.loop L)) → Kp V0 (V.putObj (w.heap.size + 1) o')) (hOk : ∀ X Y L, Ok X Y → Books w.heap.size L X → Books w.heap.size L Y)
    (I : List α → World → Prop) (Ix : Code → List α → World → Prop) (hI : OwnFrom w.heap.size I) (hIx : ∀ c, OwnFrom w.heap.size (Ix c)) (hIo : Abide Ok I) (hIxo : ∀ c, Abide Ok (Ix c)) (h0 : I [] w)
    (hround : ∀ (l : Nat) (pre : List α) (x : α) (V : World), I pre V → pre.length < N → assign.wpIn (F.inRound l) (n - 1 - 1) P (Exit.then (fun a' V' => KeepsFrom w.heap.size V V' ∧ (∀ V2, V'.grownBy V2 (some (w.heap.size + 1)) → (∀ o', V2 = V'.putObj (w.heap.size + 1) o' → Kp V V' → Kp V V2) → (∃ o, V'.heap[w.heap.size + 1]? = some o ∧ o.isCells = false) → (Kp V V' → Kp V V2) →
      body.wpIn (F.inRound l) (n - 1 - 1) P (leftBy w.heap.size Kp I Ix (pre ++ [x]) V V2) a' V2)) (fun _ _ _ => False)) { tmps := (ps.zip (encs x)).foldl (fun t (p, v) => t.setIfInBounds p v) a.tmps, defers := [] } V)
    (hdone : ∀ (D : Nat) (xs : List α) (V : World), w.heap.size ≤ D → S xs → I xs V → V.heap[D]? = some (.deferred (some [])) → Q .normal { a with defers := { target := .collected D, args := #[] } :: a.defers } V)
    (hstop : ∀ (D : Nat) (c : Code) (pre : List α) (V : World), w.heap.size ≤ D → Sp pre → Ix c pre V → V.heap[D]? = some (.deferred (some [])) → c.wpIn F n P Q { a with defers := { target := .collected D, args := #[] } :: a.defers } V) :
    (Code.rangeFunc g ps assign body).wpIn F n P Q a w := by
  refine wpIn_rangeFunc fun fn hfn => ?_
  rw [hro]
  let L0 := recOf fn a.tmps ps assign body w.heap.size
  obtain ⟨W1, hW1⟩ : ∃ W1, W1 = (w.alloc (.deferred (some []))).alloc (.loop (L0 .ready none)) := ⟨_, rfl⟩
  have hb1 : Books w.heap.size (L0 .ready none) W1 := by
    have e := World.alloc_heap_new (w.alloc (.deferred (some []))) (.loop (L0 .ready none))
    rw [World.size_alloc, ← hW1] at e
    refine ⟨e, ?_⟩
    rw [hW1]
    exact (Below.heap_alloc _ _ _ (by simp)).trans (World.alloc_heap_new w _)
  have hi1 : I [] W1 := by rw [hW1]; exact hI.alloc _ (hI.alloc _ h0)
  have hseq1 := hseq (L0 .ready none)
  rw [← hW1] at hseq1
  refine ⟨w.heap.size + 1, [{ target := .collected w.heap.size, args := #[] }], W1, { target := .fn (.func gf) lb, args := #[.func (.yield (w.heap.size + 1)) #[] #[]] }, W1, gf, #[.func (.yield (w.heap.size + 1)) #[] #[]] ++ lb, W1, by rw [hW1]; exact run_enterLoop_outer _ _ _ _ _, ?_, ?_, ?_, fun _ => h1, ?_⟩
  · simp only [resolve, hg]; simp [go_sem]
  · intro f' hf'; simp [Target.leads] at hf'; subst hf'; exact hFg
  · simp [invoke, go_sem, eg]
  -- the iterator's contract, at the invariant with the two blocks beside it
  refine (hseq1 (w.heap.size + 1) (fun pre V => I pre V ∧ Books w.heap.size (L0 .ready none) V) (fun pre V => ∃ c, Ix c pre V ∧ Books w.heap.size (L0 .done (some c)) V)
    (fun s X Y h ho => ⟨hIo s X Y h.1 ho, hOk X Y _ ho h.2⟩) (fun s X Y ⟨c, hc, hb⟩ ho => ⟨c, hIxo c s X Y hc ho, hOk X Y _ ho hb⟩) ?_ ⟨hi1, hb1⟩).mono ?_
  · -- a round
    rintro pre x V ⟨hi, hb⟩ hlen
    refine ⟨fn, _, assign, body, run_yield (P := P) (args := encs x) hb.1 (hps x), roundIn_of_wpIn hfn (wpIn_mono (hround _ pre x V hi hlen) ?_)⟩
    rintro e a1 V1 hp
    cases e with
    | normal =>
      obtain ⟨hk1, hbody⟩ := hp
      have hb2 := hb.keeps hk1 (Nat.le_refl _)
      refine ⟨_, run_beginRound hb2.1 rfl, ?_⟩
      have hb3 := hb2.put (L0 .busy none)
      refine wpIn_mono (hbody _ (grownBy_putObj' _ _ _) (fun o' e hk => by rw [e]; exact hKb _ _ _ hk ⟨_, hb2.1⟩) ⟨_, hb2.1, rfl⟩ (fun hk => hKb _ _ _ hk ⟨_, hb2.1⟩)) ?_
      -- the round's end
      have fin : ∀ (jump : Option Code) (V3 : World), KeepsFrom w.heap.size (V1.putObj (w.heap.size + 1) (.loop (L0 .busy none))) V3 → (Instr.endRound (w.heap.size + 1) jump).run P V3 = .ok (.bool jump.isNone) (V3.putObj (w.heap.size + 1) (.loop (L0 (if jump.isNone then .ready else .done) jump))) ∧ Books w.heap.size (L0 .busy none) V3 ∧ Books w.heap.size (L0 (if jump.isNone then .ready else .done) jump) (V3.putObj (w.heap.size + 1) (.loop (L0 (if jump.isNone then .ready else .done) jump))) := fun jump V3 hk => by
        have hb4 := hb3.keeps hk (Nat.le_refl _)
        exact ⟨run_endRound jump hb4.1, hb4, hb4.put _⟩
      rintro e a3 V3 hq
      cases e with
      | normal =>
        obtain ⟨hk3, hkp, hi3⟩ := hq
        obtain ⟨hr, hb4, hb5⟩ := fin none V3 hk3
        exact ⟨_, _, hr, .inl ⟨rfl, ⟨hI.putObj _ hi3 (by omega) hb4.1 rfl, hb5⟩, hKb _ _ _ hkp ⟨_, hb4.1⟩⟩⟩
      | ret =>
        obtain ⟨hr, hb4, hb5⟩ := fin (some .ret) V3 hq.1
        exact ⟨_, _, hr, .inr ⟨rfl, ⟨.ret, (hIx _).putObj _ hq.2.2 (by omega) hb4.1 rfl, hb5⟩, hKb _ _ _ hq.2.1 ⟨_, hb4.1⟩⟩⟩
      | exit id =>
        obtain ⟨hr, hb4, hb5⟩ := fin (some (.exit id)) V3 hq.1
        exact ⟨_, _, hr, .inr ⟨rfl, ⟨.exit id, (hIx _).putObj _ hq.2.2 (by omega) hb4.1 rfl, hb5⟩, hKb _ _ _ hq.2.1 ⟨_, hb4.1⟩⟩⟩
      | goto t =>
        obtain ⟨hr, hb4, hb5⟩ := fin (some (.goto t)) V3 hq.1
        exact ⟨_, _, hr, .inr ⟨rfl, ⟨.goto t, (hIx _).putObj _ hq.2.2 (by omega) hb4.1 rfl, hb5⟩, hKb _ _ _ hq.2.1 ⟨_, hb4.1⟩⟩⟩
      | panic ch => exact hq.elim
      | outgrown => exact hq.elim
    | ret => exact hp.elim
    | exit id => exact hp.elim
    | goto t => exact hp.elim
    | panic ch => exact hp.elim
    | outgrown => exact hp.elim
  · -- behind the iterator
    rintro e V ⟨⟨v, rfl⟩, (⟨xs, hS, hi, hb⟩ | ⟨pre, hSp, c, hi, hb⟩)⟩
    · exact ⟨none, _, run_endLoop (P := P) hb.1 (by simp [L0, recOf]), hdone _ xs _ (Nat.le_refl _) hS (hI.putObj _ hi (by omega) hb.1 rfl) ((World.putObj_heap_other (by omega)).trans hb.2)⟩
    · exact ⟨some c, _, run_endLoop (P := P) hb.1 (by simp [L0, recOf]), hstop _ c pre _ (Nat.le_refl _) hSp ((hIx c).putObj _ hi (by omega) hb.1 rfl) ((World.putObj_heap_other (by omega)).trans hb.2)⟩
end
end Go.Proofs.YtcpabgijmknldaaDoor.RG
