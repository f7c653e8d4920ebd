import Derived.Test.YtbpgpbbpeppjmaaPEx4
import Derived.Test.YtbpgpbbpeppjmaaMG
namespace Go.Proofs.Ytbpgpbbpeppjmaa.PE
open Go.RowKit Go.Proofs.YtbpgpbbpeppjmaaW.PrintWords Go.Proofs.YtbpgpbbpeppjmaaW.PrintLast Go.Proofs.YtbpgpbbpeppjmaaW.PrintMore
open Go.Proofs.Ytbpgpbbpeppjmaa.SG (Sg Ht Good good_iff good_op force_hit withV_force good_force)
set_option linter.unusedVariables false
set_option linter.unusedSimpArgs false
theorem same_check (k : Nat) (ac : Int) (op bl pe : Bool) (co er nr ar : Int) (l : List Bool) : signal_Check.f (k + 2) ac op bl pe co er nr ar l = PB.signal_Check.f 5 ac op bl pe co er nr ar l := by
  unfold signal_Check.f PB.signal_Check.f
  simp only [signal_Check.j0, PB.signal_Check.j0, signal_Check.j1, PB.signal_Check.j1]
theorem check_k (k : Nat) (hk : 2 ≤ k) (s : Sg) : signal_Check.f k s.ac s.op s.bl s.pe s.co s.er s.nr s.ar s.l = some s.chk := by
  obtain ⟨k, rfl⟩ : ∃ m, k = m + 2 := ⟨k - 2, by omega⟩
  rw [same_check]; exact Go.Proofs.Ytbpgpbbpeppjmaa.SG.check_f s
theorem w64_id {n : Int} (h0 : -9223372036854775808 ≤ n) (h1 : n < 9223372036854775808) : wrap64 n = n := by unfold wrap64; omega
theorem len_ok (a b : List Bool) (h : a.length = b.length + 1) (h3 : b.length ≤ 4) : (a.length : Int) = wrap64 ((b.length : Int) + 1) := by rw [w64_id (by omega) (by omega), h]; omega
set_option maxHeartbeats 2000000 in
theorem loop (l : List S47) (x y z u : Int) (hl : l.length ≤ 9223372036854775807) : ∀ (d i k : Nat) (s : Sg), i + d = 30 → d * 3 + 5 < k → s.chk = 0 → wicketgatelaw26_SignalForces.l0 k l (l.length : Int) i s.ac s.op s.bl s.pe s.co s.er s.nr s.ar s.l x y z u = some true := by
  intro d
  induction d with
  | zero =>
    intro i k s hi hk hs
    obtain ⟨k, rfl⟩ : ∃ m, k = m + 1 := ⟨k - 1, by omega⟩
    simp only [wicketgatelaw26_SignalForces.l0]
    by_cases hc : (i : Int) < (l.length : Int)
    · rw [if_pos hc, if_pos (by omega), if_pos hc, if_pos (by omega)]
    · rw [if_neg hc]
  | succ d ih =>
    intro i k s hi hk hs
    obtain ⟨k, rfl⟩ : ∃ m, k = m + 3 := ⟨k - 3, by omega⟩
    have hk2 : d * 3 + 5 < k := by omega
    have hi2 : i + 1 + d = 30 := by omega
    have hk3 : 2 ≤ k + 1 := by omega
    have hw : wrap64 ((i : Int) + 1) = ((i + 1 : Nat) : Int) := by rw [w64_id (by omega) (by omega)]; omega
    have after : ∀ s' : Sg, s'.chk = 0 → wicketgatelaw26_SignalForces.j1 (k + 2) l (l.length : Int) i s'.ac s'.op s'.bl s'.pe s'.co s'.er s'.nr s'.ar s'.l x y z u = some true := by
      intro s' hs'
      have hg := good_force s' x y z u ((good_iff s').1 hs')
      have hm := (good_iff _).2 hg
      obtain ⟨q1, q2, q3, q4, q5, q6⟩ := force_hit s' x y z u
      have h3 := ((good_iff s').1 hs').2.2.1
      have he := Go.Proofs.Ytbpgpbbpeppjmaa.SG.force_er s' x y z u
      have hF : signal_Force.f s'.ac s'.op s'.bl s'.pe s'.co s'.er s'.nr s'.ar s'.l x y z u = some ((s'.forceD x y z u).1.ac, (s'.forceD x y z u).1.op, (s'.forceD x y z u).1.bl, (s'.forceD x y z u).1.pe, (s'.forceD x y z u).1.co, (s'.forceD x y z u).1.er, (s'.forceD x y z u).1.nr, (s'.forceD x y z u).1.ar, (s'.forceD x y z u).1.l, (s'.forceD x y z u).2.1.di, (s'.forceD x y z u).2.1.ru, (s'.forceD x y z u).2.1.co, (s'.forceD x y z u).2.1.er, (s'.forceD x y z u).2.1.nr, (s'.forceD x y z u).2.1.ar, (s'.forceD x y z u).2.2) := by
        exact congrArg (fun r : Sg × Ht × Int => some (r.1.ac, r.1.op, r.1.bl, r.1.pe, r.1.co, r.1.er, r.1.nr, r.1.ar, r.1.l, r.2.1.di, r.2.1.ru, r.2.1.co, r.2.1.er, r.2.1.nr, r.2.1.ar, r.2.2)) (withV_force s' x y z u hs')
      have hc2 := check_k (k + 1) hk3 (s'.forceD x y z u).1
      rw [hm] at hc2
      generalize s'.forceD x y z u = r at hF q1 q2 q3 q4 q5 q6 he hc2
      clear hm hg
      obtain ⟨r1, r2, r3⟩ := r
      dsimp only at hF q1 q2 q3 q4 q5 q6 he hc2
      simp only [wicketgatelaw26_SignalForces.j1]
      rw [hF]
      simp only [Option.bind_some]
      rw [check_k (k + 1) hk3 s', hs', hc2]
      simp only [Option.bind_some, if_true]
      rw [if_pos he, if_neg (by rw [q1]; simp), q2, q3, q4, q5]
      simp only [beq_self_eq_true, Bool.not_true, Bool.or_self]
      simp only [wicketgatelaw26_SignalForces.j2]
      have hr := ih (i + 1) k s' hi2 hk2 hs'
      rw [if_neg Bool.false_ne_true, hw]
      by_cases hru : r2.ru = true
      · obtain ⟨g1, g2, g3⟩ := q6 hru
        rw [if_pos hru, if_neg (fun e => Bool.false_ne_true (g1.symm.trans e)), if_pos g2, if_pos (len_ok _ _ g3 h3)]
        exact hr
      · rw [if_neg hru]; exact hr
    simp only [wicketgatelaw26_SignalForces.l0]
    by_cases hc : (i : Int) < (l.length : Int)
    · rw [if_pos hc, if_pos (by omega), if_pos hc, if_neg (by omega)]
      simp only [wicketgatelaw26_Op_run.f, Option.bind_some]
      have hop := good_op s ((IntKind.u64.wrap (rd_T47 l (i : Int)).f0).tmod 10) (rd_T47 l (i : Int)).f1 (rd_T47 l (i : Int)).f2 (rd_T47 l (i : Int)).f3.f0 (rd_T47 l (i : Int)).f3.f1 (rd_T47 l (i : Int)).f3.f2 (rd_T47 l (i : Int)).f3.f3
      split
      · rename_i h0
        exact after _ ((good_iff _).2 (hop h0))
      · exact after s hs
    · rw [if_neg hc]
theorem mn_ (a b : Int) : mn a b = if a ≤ b then a else b := by unfold mn; split <;> split <;> omega
theorem SignalForces_p (a0 : Int) (a1 a2 a3 : Bool) (a4 a5 a6 a7 : Int) (q0 : List Bool) (l : List S47) (i0 i1 i2 i3 : Int) (hl : l.length ≤ 9223372036854775807) : wicketgatelaw26_SignalForces.f 200 a0 a1 a2 a3 a4 a5 a6 a7 q0 l i0 i1 i2 i3 = some true := by
  unfold wicketgatelaw26_SignalForces.f
  rw [wicketgatelaw26_wakes.tt]
  simp only [Option.bind_some, if_true]
  have hs : ∃ q, wicketgatelaw26_short.f a0 a1 a2 a3 a4 a5 a6 a7 q0 = some (a0, a1, a2, a3, a4, a5, a6, a7, q) := by
    refine ⟨q0.take (mn (q0.length : Int) 6).toNat, ?_⟩
    unfold wicketgatelaw26_short.f
    simp only [Option.bind_some, List.length_nil, List.nil_append]
    rw [mn_]
    split
    · rw [if_pos (by omega), if_pos (by omega), if_pos (by simp; omega)]
    · rw [if_pos (by omega), if_pos (by omega), if_pos (by simp; omega)]
  obtain ⟨q, hq⟩ := hs
  rw [hq]
  simp only [Option.bind_some]
  rw [check_k 200 (by omega) (⟨a0, a1, a2, a3, a4, a5, a6, a7, q⟩ : Sg)]
  simp only [Option.bind_some]
  split
  · rename_i h0
    exact loop l i0 i1 i2 i3 hl 30 0 200 (⟨a0, a1, a2, a3, a4, a5, a6, a7, q⟩ : Sg) (by omega) (by omega) h0
  · rfl
end Go.Proofs.Ytbpgpbbpeppjmaa.PE
