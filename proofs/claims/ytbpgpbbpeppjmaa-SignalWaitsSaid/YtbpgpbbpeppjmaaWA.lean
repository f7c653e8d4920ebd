import Derived.Test.YtbpgpbbpeppjmaaPDx4
import Derived.Test.YtbpgpbbpeppjmaaPDx3
import Derived.Lib.Hide
import Derived.Outline
namespace Go.Proofs.Ytbpgpbbpeppjmaa.PD
open Go.RowKit Go.Proofs.YtbpgpbbpeppjmaaW.PrintWords Go.Proofs.YtbpgpbbpeppjmaaW.PrintLast Go.Proofs.YtbpgpbbpeppjmaaW.PrintMore
open Go.Proofs.Ytbpgpbbpeppjmaa.SG (Sg Ht Outs store27 store33 block_c send_c)
set_option linter.unusedVariables false
set_option linter.unusedSimpArgs false
/-- A signal that may be. -/
def Good (s : Sg) : Prop := 0 ≤ s.ac ∧ s.ac ≤ 2 ∧ s.l.length ≤ 4 ∧ (s.op = true → s.ac = 2) ∧ (if s.pe = true then s.bl = true ∧ s.ac ≠ 1 else s.co = 0 ∧ s.er = 0 ∧ s.nr = 0 ∧ s.ar = 0)
theorem good_iff (s : Sg) : s.chk = 0 ↔ Good s := by
  unfold Sg.chk Good
  constructor
  · intro h
    refine Classical.byContradiction fun g => ?_
    have e : (360 : Int) = 0 := (if_neg g).symm.trans h
    omega
  · intro h; exact if_pos h
theorem same_check (k : Nat) (ac : Int) (op bl pe : Bool) (co er nr ar : Int) (l : List Bool) : signal_Check.f (k + 2) ac op bl pe co er nr ar l = PB.signal_Check.f 5 ac op bl pe co er nr ar l := by
  unfold signal_Check.f PB.signal_Check.f
  simp only [signal_Check.j0, PB.signal_Check.j0, signal_Check.j1, PB.signal_Check.j1]
theorem check_k (k : Nat) (hk : 2 ≤ k) (s : Sg) : signal_Check.f k s.ac s.op s.bl s.pe s.co s.er s.nr s.ar s.l = some s.chk := by
  obtain ⟨k, rfl⟩ : ∃ m, k = m + 2 := ⟨k - 2, by omega⟩
  rw [same_check]; exact Go.Proofs.Ytbpgpbbpeppjmaa.SG.check_f s
theorem equal_r (l : List Bool) (h : l.length ≤ 5) : slices_Equal_bool_bool.f 99 l l = some true := by
  rcases l with _ | ⟨a, _ | ⟨b, _ | ⟨c, _ | ⟨d, _ | ⟨e, _ | ⟨f, l⟩⟩⟩⟩⟩⟩
  · decide +kernel
  · cases a <;> decide +kernel
  · cases a <;> cases b <;> decide +kernel
  · cases a <;> cases b <;> cases c <;> decide +kernel
  · cases a <;> cases b <;> cases c <;> cases d <;> decide +kernel
  · cases a <;> cases b <;> cases c <;> cases d <;> cases e <;> decide +kernel
  · simp at h
theorem same_r (ac : Int) (op bl pe : Bool) (co er nr ar : Int) (l : List Bool) (h : l.length ≤ 5) : signal_Same.f 99 ac op bl pe co er nr ar l ac op bl pe co er nr ar l = some true := by
  unfold signal_Same.f
  rw [equal_r l h]
  simp
section
variable (ac : Int) (op bl : Bool) (l : List Bool) (h0 : 0 ≤ ac) (h1 : ac ≠ 1) (h2 : ac ≤ 2) (h3 : l.length ≤ 4) (h4 : op = true → ac = 2)
include h0 h2 h3 h4
theorem block_t : signal_Block.f ac op bl false 0 0 0 0 l true = some (ac, op, true, false, 0, 0, 0, 0, l, false, false, 0, 0, 0, 0, 0) := by
  have hc : (⟨ac, op, bl, false, 0, 0, 0, 0, l⟩ : Sg).chk = 0 := (good_iff _).2 ⟨h0, h2, h3, h4, by simp⟩
  unfold signal_Block.f Go.Proofs.Ytbpgpbbpeppjmaa.SG.Sg.withV
  rw [if_pos hc]
  simp [Go.Proofs.Ytbpgpbbpeppjmaa.SG.Sg.blockD, Go.Proofs.Ytbpgpbbpeppjmaa.SG.Sg.on, Go.Proofs.Ytbpgpbbpeppjmaa.SG.nohit]
theorem block_f : signal_Block.f ac op bl false 0 0 0 0 l false = some (ac, op, false, false, 0, 0, 0, 0, l, false, false, 0, 0, 0, 0, 0) := by
  have hc : (⟨ac, op, bl, false, 0, 0, 0, 0, l⟩ : Sg).chk = 0 := (good_iff _).2 ⟨h0, h2, h3, h4, by simp⟩
  unfold signal_Block.f Go.Proofs.Ytbpgpbbpeppjmaa.SG.Sg.withV
  rw [if_pos hc]
  simp [Go.Proofs.Ytbpgpbbpeppjmaa.SG.Sg.blockD, Go.Proofs.Ytbpgpbbpeppjmaa.SG.Sg.on, Go.Proofs.Ytbpgpbbpeppjmaa.SG.nohit]
include h1
theorem send_1 (x y z u : Int) : signal_Send.f ac op true false 0 0 0 0 l x y z u = some (ac, op, true, true, x, y, z, u, l, false, false, 0, 0, 0, 0, 0) := by
  have hc : (⟨ac, op, true, false, 0, 0, 0, 0, l⟩ : Sg).chk = 0 := (good_iff _).2 ⟨h0, h2, h3, h4, by simp⟩
  unfold signal_Send.f Go.Proofs.Ytbpgpbbpeppjmaa.SG.Sg.withV
  rw [if_pos hc]
  simp [Go.Proofs.Ytbpgpbbpeppjmaa.SG.Sg.sendD, Go.Proofs.Ytbpgpbbpeppjmaa.SG.nohit, h1]
theorem send_2 (a b c d x y z u : Int) : signal_Send.f ac op true true a b c d l x y z u = some (ac, op, true, true, a, b, c, d, l, false, false, 0, 0, 0, 0, 0) := by
  have hc : (⟨ac, op, true, true, a, b, c, d, l⟩ : Sg).chk = 0 := (good_iff _).2 ⟨h0, h2, h3, h4, by simp [h1]⟩
  unfold signal_Send.f Go.Proofs.Ytbpgpbbpeppjmaa.SG.Sg.withV
  rw [if_pos hc]
  simp [Go.Proofs.Ytbpgpbbpeppjmaa.SG.Sg.sendD, Go.Proofs.Ytbpgpbbpeppjmaa.SG.nohit, h1]
theorem block_2 (x y z u : Int) : ∃ (bl' : Bool) (l' : List Bool) (di : Bool), l'.length ≤ 4 ∧ signal_Block.f ac op true true x y z u l false = some (ac, op, bl', false, 0, 0, 0, 0, l', di, !di, x, y, z, u, 0) := by
  have hc : (⟨ac, op, true, true, x, y, z, u, l⟩ : Sg).chk = 0 := (good_iff _).2 ⟨h0, h2, h3, h4, by simp [h1]⟩
  unfold signal_Block.f Go.Proofs.Ytbpgpbbpeppjmaa.SG.Sg.withV
  rw [if_pos hc]
  by_cases h5 : ac = 2
  · by_cases h6 : l.length < 4
    · cases op
      · exact ⟨true, l ++ [false], false, by simp; omega, by simp [Go.Proofs.Ytbpgpbbpeppjmaa.SG.Sg.blockD, Go.Proofs.Ytbpgpbbpeppjmaa.SG.Sg.on, Go.Proofs.Ytbpgpbbpeppjmaa.SG.Sg.drop, Go.Proofs.Ytbpgpbbpeppjmaa.SG.Sg.deliver, h1, h5, h6]⟩
      · exact ⟨false, l ++ [false], false, by simp; omega, by simp [Go.Proofs.Ytbpgpbbpeppjmaa.SG.Sg.blockD, Go.Proofs.Ytbpgpbbpeppjmaa.SG.Sg.on, Go.Proofs.Ytbpgpbbpeppjmaa.SG.Sg.drop, Go.Proofs.Ytbpgpbbpeppjmaa.SG.Sg.deliver, h1, h5, h6]⟩
    · exact ⟨false, l, true, h3, by simp [Go.Proofs.Ytbpgpbbpeppjmaa.SG.Sg.blockD, Go.Proofs.Ytbpgpbbpeppjmaa.SG.Sg.on, Go.Proofs.Ytbpgpbbpeppjmaa.SG.Sg.drop, Go.Proofs.Ytbpgpbbpeppjmaa.SG.Sg.deliver, h1, h5, h6]⟩
  · exact ⟨false, l, true, h3, by simp [Go.Proofs.Ytbpgpbbpeppjmaa.SG.Sg.blockD, Go.Proofs.Ytbpgpbbpeppjmaa.SG.Sg.on, Go.Proofs.Ytbpgpbbpeppjmaa.SG.Sg.drop, Go.Proofs.Ytbpgpbbpeppjmaa.SG.Sg.deliver, h1, h5]⟩
end
theorem mn_ (a b : Int) : mn a b = if a ≤ b then a else b := by unfold mn; split <;> split <;> omega

theorem step_ {ops : Array Oper} {rest : List Oper} {oi : Oper} {a : Act} {W W1 : World} {Q : Exit → Act → World → Prop} (hgd : oi.guard = none) (hN : oi.dst = none) (hrun : (execOp a.eval oi).run Try.prog W = .ok .skip W1) (h : wpList Try.prog ops Q rest a W1) : wpList Try.prog ops Q (oi :: rest) a W := by
  refine wpList_plain hgd fun K hK => ?_
  unfold Oper.wp
  rw [hrun]
  show K (a.put oi.dst undef) W1
  rw [hN]
  exact hK _ _ h
theorem storeP27 {ops : Array Oper} {rest : List Oper} {Q : Exit → Act → World → Prop} {oi : Oper} {a : Act} {W : World} (hgd : oi.guard = none) (hN : oi.dst = none) (p q : Operand) (hop : oi.op = .store 27 p q) (ac co er nr ar : Int) (op bl pe : Bool) (A : Option Addr) (m c : Nat) {z0 z1 z2 z3 z4 z5 z6 z7 z8 : Value} (Y : Nat) (hp : a.eval p = .pointer (some ⟨Y, 0, none⟩)) (hq : a.eval q = .agg #[.int .i64 ac, .bool op, .bool bl, .bool pe, .int .i64 co, .int .i64 er, .int .u32 nr, .int .u32 ar, .slice A m c]) (hY : W.heap[Y]? = some (.cells #[z0, z1, z2, z3, z4, z5, z6, z7, z8] 27 (0, 0)))
    (h : ∀ W1 : World, W1.heap[Y]? = some (.cells #[.int .i64 ac, .bool op, .bool bl, .bool pe, .int .i64 co, .int .i64 er, .int .u32 nr, .int .u32 ar, .slice A m c] 27 (0, 0)) → (∀ g, g ≠ Y → W1.heap[g]? = W.heap[g]?) → W1.heap.size = W.heap.size → (∀ b, b ≤ Y → Below b W W1) → wpList Try.prog ops Q rest a W1) : wpList Try.prog ops Q (oi :: rest) a W := by
  obtain ⟨W1, hr, h1, h2, h3, h4⟩ := store27 a.eval oi p q hop ac co er nr ar op bl pe A m c Y hp hq W hY
  exact step_ hgd hN hr (h W1 h1 h2 h3 h4)
theorem storeP33 {ops : Array Oper} {rest : List Oper} {Q : Exit → Act → World → Prop} {oi : Oper} {a : Act} {W : World} (hgd : oi.guard = none) (hN : oi.dst = none) (p q : Operand) (hop : oi.op = .store 33 p q) (co er nr ar : Int) (di ru : Bool) {z0 z1 z2 z3 z4 z5 : Value} (Y : Nat) (hp : a.eval p = .pointer (some ⟨Y, 0, none⟩)) (hq : a.eval q = .agg #[.bool di, .bool ru, .int .i64 co, .int .i64 er, .int .u32 nr, .int .u32 ar]) (hY : W.heap[Y]? = some (.cells #[z0, z1, z2, z3, z4, z5] 33 (0, 0)))
    (h : ∀ W1 : World, W1.heap[Y]? = some (.cells #[.bool di, .bool ru, .int .i64 co, .int .i64 er, .int .u32 nr, .int .u32 ar] 33 (0, 0)) → (∀ g, g ≠ Y → W1.heap[g]? = W.heap[g]?) → W1.heap.size = W.heap.size → (∀ b, b ≤ Y → Below b W W1) → wpList Try.prog ops Q rest a W1) : wpList Try.prog ops Q (oi :: rest) a W := by
  obtain ⟨W1, hr, h1, h2, h3, h4⟩ := store33 a.eval oi p q hop co er nr ar di ru Y hp hq W hY
  exact step_ hgd hN hr (h W1 h1 h2 h3 h4)
/-- What a row of flags of the law's own is: its value by letters, its list. -/
def Fl (W : World) (base : Nat) (A : Option Addr) (m c : Nat) (l : List Bool) : Prop := m = l.length ∧ m ≤ c ∧ Kd.R Kd.bool 4 W base (fun _ => True) (.slice A m c) l
theorem Fl.mk' {W : World} {base : Nat} {v : Value} {l : List Bool} (h : Kd.R Kd.bool 4 W base (fun _ => True) v l) : ∃ (A : Option Addr) (m c : Nat), v = .slice A m c ∧ Fl W base A m c l := by
  obtain ⟨A, c, rfl, hc, _⟩ := Kd.R_reads h
  exact ⟨A, _, c, rfl, rfl, hc, h⟩
theorem Fl.below {W W1 : World} {base : Nat} {A : Option Addr} {m c : Nat} {l : List Bool} (h : Fl W base A m c l) (hb : Below W.heap.size W W1) : Fl W1 base A m c l := ⟨h.1, h.2.1, Kd.R_below h.2.2 hb⟩
theorem Fl.alloc {W : World} {base : Nat} {A : Option Addr} {m c : Nat} {l : List Bool} (h : Fl W base A m c l) (ob : Obj) : Fl (W.alloc ob) base A m c l := ⟨h.1, h.2.1, Kd.R_alloc h.2.2 ob⟩
theorem Fl.lower {W : World} {base base' : Nat} {A : Option Addr} {m c : Nat} {l : List Bool} (h : Fl W base A m c l) (hb : base' ≤ base) : Fl W base' A m c l := ⟨h.1, h.2.1, Kd.R_lower h.2.2 hb⟩
theorem Fl.st {W W1 : World} {base : Nat} {A : Option Addr} {m c : Nat} {l : List Bool} (h : Fl W base A m c l) {Y t : Nat} {cells : Array Value} (hb : W.heap[Y]? = some (.cells cells t (0, 0))) (ht : 4 ≠ t) (ho : ∀ g, g ≠ Y → W1.heap[g]? = W.heap[g]?) : Fl W1 base A m c l :=
  ⟨h.1, h.2.1, Kd.R_mono (Kd.R_step (Kd.R_types h.2.2 hb (fun q hq => (List.mem_cons.1 hq).elim (fun e => e ▸ ht) (fun h => absurd h (by simp [Kd.bool, Kd.scalar])))) (fun k hk _ => ho k hk.2)) (fun _ _ => trivial)⟩
theorem Fl.reads {W : World} {base : Nat} {A : Option Addr} {m c : Nat} {l : List Bool} (h : Fl W base A m c l) : Kd.C Kd.bool W A l.length l := by
  obtain ⟨A', c', e, _, hC⟩ := Kd.R_reads h.2.2
  injection e with e1 e2 e3
  subst e1
  exact hC
theorem Fl.nil (W : World) (base : Nat) : Fl W base none 0 0 [] := ⟨rfl, Nat.le_refl _, Kd.R_nil _ _ _ _ _⟩
section
variable {ac co er nr ar ac' co' er' nr' ar' co2 er2 nr2 ar2 : Int} {op bl pe op' bl' pe' di ru : Bool} {l l' : List Bool}
theorem block_e (b : Bool) (h : signal_Block.f ac op bl pe co er nr ar l b = some (ac', op', bl', pe', co', er', nr', ar', l', di, ru, co2, er2, nr2, ar2, 0)) {A : Option Addr} {m c base : Nat} {W : World} (hF : Fl W base A m c l) :
    Calls Try.prog 9 #[.agg #[.int .i64 ac, .bool op, .bool bl, .bool pe, .int .i64 co, .int .i64 er, .int .u32 nr, .int .u32 ar, .slice A m c], .bool b] W fun e W' => ∃ (A' : Option Addr) (m' c' : Nat), e = .returned (.tuple #[.agg #[.int .i64 ac', .bool op', .bool bl', .bool pe', .int .i64 co', .int .i64 er', .int .u32 nr', .int .u32 ar', .slice A' m' c'], .agg #[.bool di, .bool ru, .int .i64 co2, .int .i64 er2, .int .u32 nr2, .int .u32 ar2], .int .i64 0]) ∧ Fl W' W.heap.size A' m' c' l' ∧ Below W.heap.size W W' := by
  have hC := hF.reads
  obtain ⟨rfl, hc, _⟩ := hF
  refine (signal_Block.calls ac op bl pe co er nr ar A c l b _ _ _ _ _ _ _ _ _ _ _ _ _ _ _ _ W hC hc h).mono ?_
  rintro e W' ⟨v, rfl, hR, hB⟩
  obtain ⟨A', m', c', rfl, hF'⟩ := Fl.mk' hR
  exact ⟨A', m', c', rfl, hF', hB⟩
theorem send_e (x y z u : Int) (h : signal_Send.f ac op bl pe co er nr ar l x y z u = some (ac', op', bl', pe', co', er', nr', ar', l', di, ru, co2, er2, nr2, ar2, 0)) {A : Option Addr} {m c base : Nat} {W : World} (hF : Fl W base A m c l) :
    Calls Try.prog 10 #[.agg #[.int .i64 ac, .bool op, .bool bl, .bool pe, .int .i64 co, .int .i64 er, .int .u32 nr, .int .u32 ar, .slice A m c], .agg #[.int .i64 x, .int .i64 y, .int .u32 z, .int .u32 u]] W fun e W' => ∃ (A' : Option Addr) (m' c' : Nat), e = .returned (.tuple #[.agg #[.int .i64 ac', .bool op', .bool bl', .bool pe', .int .i64 co', .int .i64 er', .int .u32 nr', .int .u32 ar', .slice A' m' c'], .agg #[.bool di, .bool ru, .int .i64 co2, .int .i64 er2, .int .u32 nr2, .int .u32 ar2], .int .i64 0]) ∧ Fl W' W.heap.size A' m' c' l' ∧ Below W.heap.size W W' := by
  have hC := hF.reads
  obtain ⟨rfl, hc, _⟩ := hF
  refine (signal_Send.calls ac op bl pe co er nr ar A c l x y z u _ _ _ _ _ _ _ _ _ _ _ _ _ _ _ _ W hC hc h).mono ?_
  rintro e W' ⟨v, rfl, hR, hB⟩
  obtain ⟨A', m', c', rfl, hF'⟩ := Fl.mk' hR
  exact ⟨A', m', c', rfl, hF', hB⟩
theorem check_e {r : Int} (hr : (⟨ac, op, bl, pe, co, er, nr, ar, l⟩ : Sg).chk = r) {A : Option Addr} {m c base : Nat} {W : World} (hF : Fl W base A m c l) :
    Calls Try.prog 8 #[.agg #[.int .i64 ac, .bool op, .bool bl, .bool pe, .int .i64 co, .int .i64 er, .int .u32 nr, .int .u32 ar, .slice A m c]] W fun e W' => e = .returned (.int .i64 r) ∧ Below W.heap.size W W' := by
  have hC := hF.reads
  obtain ⟨rfl, hc, _⟩ := hF
  subst hr
  exact signal_Check.calls 100 ac op bl pe co er nr ar A c l _ W hC hc (check_k 100 (by omega) (⟨ac, op, bl, pe, co, er, nr, ar, l⟩ : Sg))
theorem same_e (hl : l.length ≤ 5) {A A2 : Option Addr} {m c base m2 c2 base2 : Nat} {W : World} (hF : Fl W base A m c l) (hF2 : Fl W base2 A2 m2 c2 l) :
    Calls Try.prog 11 #[.agg #[.int .i64 ac, .bool op, .bool bl, .bool pe, .int .i64 co, .int .i64 er, .int .u32 nr, .int .u32 ar, .slice A m c], .agg #[.int .i64 ac, .bool op, .bool bl, .bool pe, .int .i64 co, .int .i64 er, .int .u32 nr, .int .u32 ar, .slice A2 m2 c2]] W fun e W' => e = .returned (.bool true) ∧ Below W.heap.size W W' := by
  have hC := hF.reads
  have hC2 := hF2.reads
  obtain ⟨rfl, hc, _⟩ := hF
  obtain ⟨rfl, hc2, _⟩ := hF2
  exact signal_Same.calls 99 ac op bl pe co er nr ar A c l ac op bl pe co er nr ar A2 c2 l true W hC hc hC2 hc2 (same_r ac op bl pe co er nr ar l hl)
theorem short_e (hl : l' = l.take (mn (l.length : Int) 6).toNat) {A : Option Addr} {m c : Nat} {W : World} (hm : m = l.length) (hC : Kd.C Kd.bool W A m l) (hc : m ≤ c) :
    Calls Try.prog 7 #[.agg #[.int .i64 ac, .bool op, .bool bl, .bool pe, .int .i64 co, .int .i64 er, .int .u32 nr, .int .u32 ar, .slice A m c]] W fun e W' => ∃ (A' : Option Addr) (m' c' : Nat), e = .returned (.agg #[.int .i64 ac, .bool op, .bool bl, .bool pe, .int .i64 co, .int .i64 er, .int .u32 nr, .int .u32 ar, .slice A' m' c']) ∧ Fl W' W.heap.size A' m' c' l' ∧ Below W.heap.size W W' := by
  subst hm
  have hs : wicketgatelaw26_short.f ac op bl pe co er nr ar l = some (ac, op, bl, pe, co, er, nr, ar, l') := by
    subst hl
    unfold wicketgatelaw26_short.f
    simp only [Option.bind_some, List.length_nil, List.nil_append]
    rw [mn_]
    split
    · rw [if_pos (by omega), if_pos (by omega), if_pos (by simp; omega)]
    · rw [if_pos (by omega), if_pos (by omega), if_pos (by simp; omega)]
  refine (wicketgatelaw26_short.calls ac op bl pe co er nr ar A c l _ _ _ _ _ _ _ _ _ W hC hc hs).mono ?_
  rintro e W' ⟨v, rfl, hR, hB⟩
  obtain ⟨A', m', c', rfl, hF'⟩ := Fl.mk' hR
  exact ⟨A', m', c', rfl, hF', hB⟩
end
end Go.Proofs.Ytbpgpbbpeppjmaa.PD
