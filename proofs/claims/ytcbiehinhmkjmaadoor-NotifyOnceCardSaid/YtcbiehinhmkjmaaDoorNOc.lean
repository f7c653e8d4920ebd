import Derived.Test.YtcbiehinhmkjmaaDoorNOp
import Derived.Test.YtcbiehinhmkjmaaDoorNO
import Derived.Test.YtcbiehinhmkjmaaDoorNWf
namespace Go.Proofs.YtcbiehinhmkjmaaDoor.NB
open Go.RowKit Go.Proofs.YtcbiehinhmkjmaaDoorW.PrintWords Go.Proofs.YtcbiehinhmkjmaaDoorW.PrintLast Go.Proofs.YtcbiehinhmkjmaaDoorW.PrintMore
open Go.Proofs.YtcbiehinhmkjmaaDoor.PB
set_option linter.unusedVariables false
set_option linter.unusedSimpArgs false
open Go.Proofs.YtcbiehinhmkjmaaDoor.PE.L (Tab)

structure S42 where
  f0 : Bool
  f1 : Int
def z42 : S42 := ⟨false, 0⟩
def k42 : Kd S42 := Kd.iso (Kd.pair Kd.bool (Kd.int .i64)) (fun x : S42 => (x.f0, x.f1))
structure S57 where
  f0 : Int
  f1 : Int
  f2 : S42
def z57 : S57 := ⟨0, 0, z42⟩
def k57 : Kd S57 := Kd.iso (Kd.pair (Kd.int .i64) (Kd.pair (Kd.int .i64) k42)) (fun x : S57 => (x.f0, x.f1, x.f2))
theorem k42_open {w : World} {x : S42} {cs : List Value} (h : k42.K w x cs) : cs = [.bool x.f0, .int .i64 x.f1] := by
  obtain ⟨_, _, rfl, rfl, rfl⟩ := h
  rfl
theorem k57_open {w : World} {x : S57} {cs : List Value} (h : k57.K w x cs) : cs = [.int .i64 x.f0, .int .i64 x.f1, .bool x.f2.f0, .int .i64 x.f2.f1] := by
  obtain ⟨_, _, rfl, rfl, ⟨_, _, rfl, rfl, s2⟩⟩ := h
  obtain rfl := k42_open s2
  rfl
def rd_T57 (xs : List S57) (i : Int) : S57 := xs.getD i.toNat z57
theorem at_T57 {w : World} {A : Option Addr} {n : Nat} {xs : List S57} (h : Kd.C k57 w A n xs) (i : Int) (h0 : 0 ≤ i) (h1 : i < n) : ∃ ad , A = some ad ∧ w.cell? (ad.add (i.toNat * 4)) = some (.int .i64 (rd_T57 xs i).f0) ∧ w.cell? ⟨(ad.add (i.toNat * 4)).block, (ad.add (i.toNat * 4)).off + 1, none⟩ = some (.int .i64 (rd_T57 xs i).f1) ∧ w.cell? ⟨(ad.add (i.toNat * 4)).block, (ad.add (i.toNat * 4)).off + 2, none⟩ = some (.bool (rd_T57 xs i).f2.f0) ∧ w.cell? ⟨(ad.add (i.toNat * 4)).block, (ad.add (i.toNat * 4)).off + 3, none⟩ = some (.int .i64 (rd_T57 xs i).f2.f1) := by
  obtain ⟨ad, c, e, _, hK, hc0⟩ := Kd.C_get h z57 i h0 h1
  have hc : ∀ j u, c[j]? = some u → w.cell? (ad.add (i.toNat * 4 + j)) = some u := hc0
  obtain rfl := k57_open hK
  exact ⟨ad, e, hc 0 _ rfl, by rw [← add_field _ _ 1 (by omega)]; exact hc 1 _ rfl, by rw [← add_field _ _ 2 (by omega)]; exact hc 2 _ rfl, by rw [← add_field _ _ 3 (by omega)]; exact hc 3 _ rfl⟩
/-- What a round keeps: the desk's box X, its row; the cookies given; three maps behind the box. -/
structure Rd (w W : World) (X : Nat) (v g : Value) (nx nh : Int) (l : List S36) (gv : List Int) (n1 n2 n3 : Nat) (f : Int → Int) (tkn ov : Int → Bool) : Prop where
  hb : Below w.heap.size w W
  hwX : w.heap.size ≤ X
  sz : X + 4 ≤ W.heap.size
  hd : W.heap[X]? = some (.cells #[.int .u64 nx, v] 25 (0, 0))
  hl : Kd.R k36 36 W (X + 4) (fun k => some k ≠ g.ownBlock) v l
  hg : Kd.R (Kd.int .u64) 22 W (X + 4) (fun _ => True) g gv
  ha : AskM W (X + 1) n1 (hh nh) f
  ht : SetU W (X + 1 + 1) n2 tkn
  ho : SetU W (X + 1 + 1 + 1) n3 ov
section
variable {w W W' : World} {X : Nat} {v g v' g' : Value} {nx nx' nh nh' : Int} {l l' : List S36} {gv gv' : List Int} {n1 n2 n3 n' : Nat} {f f' : Int → Int} {tkn ov S' : Int → Bool}
theorem Rd.below (h : Rd w W X v g nx nh l gv n1 n2 n3 f tkn ov) (hb : Below W.heap.size W W') : Rd w W' X v g nx nh l gv n1 n2 n3 f tkn ov :=
  have hs := h.sz
  ⟨h.hb.trans (hb.mono h.hb.size), h.hwX, Nat.le_trans h.sz hb.size, (hb.block _ (by omega)).trans h.hd, Kd.R_below h.hl hb, Kd.R_below h.hg hb, h.ha.keep (hb.block _ (by omega)), h.ht.keep (hb.block _ (by omega)), h.ho.keep (hb.block _ (by omega))⟩
theorem Rd.alloc (h : Rd w W X v g nx nh l gv n1 n2 n3 f tkn ov) (ob : Obj) : Rd w (W.alloc ob) X v g nx nh l gv n1 n2 n3 f tkn ov := h.below (bel_al (Below.refl _ _) ob)
theorem Rd.newrow (h : Rd w W X v g nx nh l gv n1 n2 n3 f tkn ov) (hR : Kd.R k36 36 W' W.heap.size (fun _ => True) v' l') : Kd.R k36 36 W' (X + 4) (fun k => some k ≠ g.ownBlock) v' l' := by
  obtain ⟨inner, ho⟩ := Kd.R_own h.hg
  exact Kd.R_lower (Kd.R_mono (Kd.R_new hR ho) (fun k hk => hk.2)) h.sz
theorem Rd.put (h : Rd w W X v g nx nh l gv n1 n2 n3 f tkn ov) (hR : Kd.R k36 36 W (X + 4) (fun k => some k ≠ g.ownBlock) v' l') (nx' : Int) : Rd w ((W.setCell ⟨X, 0, none⟩ (.int .u64 nx')).setCell ⟨X, 1, none⟩ v') X v' g nx' nh l' gv n1 n2 n3 f tkn ov := by
  have key : ∀ k, k ≠ X → ((W.setCell ⟨X, 0, none⟩ (.int .u64 nx')).setCell ⟨X, 1, none⟩ v').heap[k]? = W.heap[k]? := fun k hk => (Below.heap_setCell _ _ _ _ hk).trans (Below.heap_setCell _ _ _ _ hk)
  have hX := h.hwX
  refine ⟨(h.hb.setCell hX _).setCell hX _, hX, by simp only [World.size_setCell]; exact h.sz, ?_, ?_, ?_, h.ha.keep (key _ (by omega)), h.ht.keep (key _ (by omega)), h.ho.keep (key _ (by omega))⟩
  · have h1 := blk_set (blk_set h.hd 0 (.int .u64 nx')) 1 v'
    simpa using h1
  · refine Kd.R_mono (Kd.R_step (Kd.R_bound hR) (fun k hk _ => key k (by have := hk.2.1; omega))) (fun k hk => hk.1)
  · exact Kd.R_mono (Kd.R_step (Kd.R_bound h.hg) (fun k hk _ => key k (by have := hk.2.1; omega))) (fun k hk => hk.1)
theorem rows_grown {α : Type} {d : Kd α} {e : Nat} {ok : Nat → Prop} {xs : List α} {b : Nat} (h : d.R e W (X + 4) ok v xs) (hg : W.grownBy W' (some b)) (hb : b < X + 4) : d.R e W' (X + 4) ok v xs :=
  Kd.R_mono (Kd.R_grown (Kd.R_bound h) hg (fun k hk e => by injection e with e; have := hk.2.1; omega)) (fun _ hk => hk.1)
theorem grown_blk {b k : Nat} (hg : W.grownBy W' (some b)) (hk : k < W.heap.size) (hne : k ≠ b) : W'.heap[k]? = W.heap[k]? := hg.block k hk (fun e => by injection e with e; exact hne e)
theorem grown_bel (hb : Below w.heap.size w W) {b : Nat} (hg : W.grownBy W' (some b)) (hX : w.heap.size ≤ b) : Below w.heap.size w W' :=
  hb.grown hg hb.size (fun q e => by injection e with e; omega)
theorem Rd.setA (h : Rd w W X v g nx nh l gv n1 n2 n3 f tkn ov) (ha : AskM W' (X + 1) n' (hh nh') f') (hg : W.grownBy W' (some (X + 1))) : Rd w W' X v g nx nh' l gv n' n2 n3 f' tkn ov := by
  have hs := h.sz
  have hX := h.hwX
  exact ⟨grown_bel h.hb hg (by omega), hX, Nat.le_trans hs hg.size, (grown_blk hg (by omega) (by omega)).trans h.hd, rows_grown h.hl hg (by omega), rows_grown h.hg hg (by omega), ha, h.ht.keep (grown_blk hg (by omega) (by omega)), h.ho.keep (grown_blk hg (by omega) (by omega))⟩
theorem Rd.setT (h : Rd w W X v g nx nh l gv n1 n2 n3 f tkn ov) (ha : SetU W' (X + 1 + 1) n' S') (hg : W.grownBy W' (some (X + 1 + 1))) : Rd w W' X v g nx nh l gv n1 n' n3 f S' ov := by
  have hs := h.sz
  have hX := h.hwX
  exact ⟨grown_bel h.hb hg (by omega), hX, Nat.le_trans hs hg.size, (grown_blk hg (by omega) (by omega)).trans h.hd, rows_grown h.hl hg (by omega), rows_grown h.hg hg (by omega), h.ha.keep (grown_blk hg (by omega) (by omega)), ha, h.ho.keep (grown_blk hg (by omega) (by omega))⟩
theorem Rd.setO (h : Rd w W X v g nx nh l gv n1 n2 n3 f tkn ov) (ha : SetU W' (X + 1 + 1 + 1) n' S') (hg : W.grownBy W' (some (X + 1 + 1 + 1))) : Rd w W' X v g nx nh l gv n1 n2 n' f tkn S' := by
  have hs := h.sz
  have hX := h.hwX
  exact ⟨grown_bel h.hb hg (by omega), hX, Nat.le_trans hs hg.size, (grown_blk hg (by omega) (by omega)).trans h.hd, rows_grown h.hl hg (by omega), rows_grown h.hg hg (by omega), h.ha.keep (grown_blk hg (by omega) (by omega)), h.ht.keep (grown_blk hg (by omega) (by omega)), ha⟩
theorem rng_blk {b r n cnt : Nat} {h L : Int → Bool} (H : RngM W b r n h f L cnt) : ∃ m s q c, W.heap[r]? = some (.mapIter m s q c) := by
  obtain ⟨D, left, ⟨es, clock, since, seen, c0, _, _, _, _, h2, _⟩, _⟩ := H
  exact ⟨_, _, _, _, h2⟩
theorem below_none (hg : W.grownBy W' none) : Below W.heap.size W W' := ⟨hg.os, hg.tape, hg.output, hg.size, fun k hk => hg.block k hk (by simp)⟩
/-- A step of a range's iterator. -/
theorem Rd.iter (h : Rd w W X v g nx nh l gv n1 n2 n3 f tkn ov) {r n cnt : Nat} {q L : Int → Bool} (H : RngM W (X + 1) r n q f' L cnt) (hr : X + 4 ≤ r) (hg : W.grownBy W' (some r)) : Rd w W' X v g nx nh l gv n1 n2 n3 f tkn ov := by
  have hs := h.sz
  have hX := h.hwX
  obtain ⟨_, _, _, _, hb⟩ := rng_blk H
  have key : ∀ {k e : Nat} {cells : Array Value}, W.heap[k]? = some (.cells cells e (0, 0)) → some k ≠ some r := fun h1 e => by
    injection e with e
    subst e
    rw [hb] at h1
    cases h1
  refine ⟨grown_bel h.hb hg (by omega), hX, Nat.le_trans hs hg.size, (grown_blk hg (by omega) (by omega)).trans h.hd, ?_, ?_, h.ha.keep (grown_blk hg (by omega) (by omega)), h.ht.keep (grown_blk hg (by omega) (by omega)), h.ho.keep (grown_blk hg (by omega) (by omega))⟩
  · refine Kd.R_mono (Kd.R_grown (Kd.R_bound h.hl) hg (fun k hk => ?_)) (fun _ hk => hk.1)
    obtain ⟨_, _, _, _, _, cells, hc⟩ := hk
    exact key hc
  · refine Kd.R_mono (Kd.R_grown (Kd.R_bound h.hg) hg (fun k hk => ?_)) (fun _ hk => hk.1)
    obtain ⟨_, _, _, _, _, cells, hc⟩ := hk
    exact key hc
theorem rows_iter {α : Type} {d : Kd α} {e : Nat} {ok : Nat → Prop} {xs : List α} {b r n cnt : Nat} {q L : Int → Bool} (h : d.R e W (X + 4) ok v xs) (H : RngM W b r n q f' L cnt) (hg : W.grownBy W' (some r)) : d.R e W' (X + 4) ok v xs := by
  obtain ⟨_, _, _, _, hb⟩ := rng_blk H
  refine Kd.R_mono (Kd.R_grown (Kd.R_bound h) hg (fun k hk => ?_)) (fun _ hk => hk.1)
  obtain ⟨_, _, _, _, _, cells, hc⟩ := hk
  intro e
  injection e with e
  subst e
  rw [hb] at hc
  cases hc
theorem Rd.row {A : Option Addr} {n c : Nat} (h : Rd w W X (.slice A n c) g nx nh l gv n1 n2 n3 f tkn ov) : n = l.length ∧ n ≤ c ∧ Kd.C k36 W A n l := by
  obtain ⟨A', c', h1, h2, h3⟩ := Kd.R_reads h.hl
  injection h1 with e1 e2 e3
  subst e1 e2 e3
  exact ⟨rfl, h2, h3⟩
theorem Rd.giv {A : Option Addr} {n c : Nat} (h : Rd w W X v (.slice A n c) nx nh l gv n1 n2 n3 f tkn ov) : n = gv.length ∧ Kd.C (Kd.int .u64) W A n gv := by
  obtain ⟨A', c', h1, h2, h3⟩ := Kd.R_reads h.hg
  injection h1 with e1 e2 e3
  subst e1 e2 e3
  exact ⟨rfl, h3⟩
theorem kd_cases (a : Int) : (wrap64 (a.tmod 4 + 4)).tmod 4 = 0 ∨ (wrap64 (a.tmod 4 + 4)).tmod 4 = 1 ∨ (wrap64 (a.tmod 4 + 4)).tmod 4 = 2 ∨ (wrap64 (a.tmod 4 + 4)).tmod 4 = 3 := by
  have h1 : -4 < a.tmod 4 := Int.lt_tmod_of_pos a (by decide)
  have h2 : a.tmod 4 < 4 := Int.tmod_lt_of_pos a (by decide)
  obtain ⟨b, hb⟩ : ∃ b, b = a.tmod 4 := ⟨_, rfl⟩
  rw [← hb] at h1 h2 ⊢
  have h3 : wrap64 (b + 4) = b + 4 := by unfold wrap64; omega
  rw [h3, Int.tmod_eq_emod_of_nonneg (by omega)]
  omega
theorem rd_mem {xs : List Int} {i : Int} (h0 : 0 ≤ i) (h1 : i < (xs.length : Int)) : rd xs i ∈ xs := by
  obtain ⟨n, rfl⟩ := Int.eq_ofNat_of_zero_le h0
  have hn : n < xs.length := by omega
  have e : rd xs (n : Int) = xs[n] := by unfold rd; simp [hn]
  rw [e]
  exact List.getElem_mem hn
theorem tid_rng (a : Int) : 1 ≤ max a 0 % 8 + 1 ∧ max a 0 % 8 + 1 ≤ 8 := by omega
/-- 'given = append(given, c)'. -/
theorem Rd.app (h : Rd w W X v g nx nh l gv n1 n2 n3 f tkn ov) (ho : Kd.R (Kd.int .u64) 22 W' (X + 4) (fun _ => True) g' gv') (hb : Below (X + 4) W W') (hg : W.grownBy W' g.ownBlock) (hat : g'.ownBlock = g.ownBlock ∨ ∃ b, g'.ownBlock = some b ∧ W.heap.size ≤ b) : Rd w W' X v g' nx nh l gv' n1 n2 n3 f tkn ov := by
  have hX := h.hwX
  have e : Kd.R k36 36 W (X + 4) (fun k => True ∧ some k ≠ g.ownBlock) v l := Kd.R_mono h.hl (fun k hk => ⟨trivial, hk⟩)
  exact ⟨h.hb.trans (hb.mono (by omega)), hX, Nat.le_trans h.sz hb.size, (hb.block _ (by omega)).trans h.hd, Kd.R_mono (Kd.R_after e hg hat) (fun k hk => hk.2), ho, h.ha.keep (hb.block _ (by omega)), h.ht.keep (hb.block _ (by omega)), h.ho.keep (hb.block _ (by omega))⟩
end
/-! The functions in the round's words. -/
theorem chk_d {nx : Int} {l : List S36} {n : Nat} (h : Dok nx l) (hn : n = l.length) (A : Option Addr) (c : Nat) (hc : n ≤ c) (W : World) (hr : Kd.C k36 W A n l) : Calls Tryd.prog 21 #[.agg #[.int .u64 nx, .slice A n c]] W fun e w' => e = .returned (.int .i64 0) ∧ Below W.heap.size W w' := by
  subst hn
  have := check_w nx A c l hc W hr
  rw [chk_ok h] at this
  exact this
theorem dok_len {nx : Int} {l : List S36} (h : Dok nx l) : l.length ≤ 8 := by have := h.2.2.1; omega
theorem wait_d {nx : Int} {l : List S36} {n : Nat} (h : Dok nx l) (hn : n = l.length) (A : Option Addr) (c : Nat) (hc : n ≤ c) (W : World) (hr : Kd.C k36 W A n l) : Calls Tryd.prog 22 #[.agg #[.int .u64 nx, .slice A n c]] W fun e w' => ∃ (A' : Option Addr) (c' : Nat), e = .returned (.slice A' n c') ∧ Below W.heap.size W w' := by
  subst hn
  refine (waiting_w nx A c l (Nat.le_trans (dok_len h) (by decide)) hc W hr).mono ?_
  rintro e w' ⟨A', n', c', rfl, h2, h3, h4⟩
  rw [wait_ok h, srt_len, List.length_map] at h2
  subst h2
  exact ⟨A', c', rfl, h4⟩
theorem valid_d {nx ck : Int} {l : List S36} {n : Nat} {b : Bool} (h : Dok nx l) (hn : n = l.length) (hb : validA l ck = b) (A : Option Addr) (c : Nat) (hc : n ≤ c) (W : World) (hr : Kd.C k36 W A n l) : Calls Tryd.prog 20 #[.agg #[.int .u64 nx, .slice A n c], .int .u64 ck] W fun e w' => e = .returned (.bool b) ∧ Below W.heap.size W w' := by
  subst hn
  have := valid_w nx A c l ck (Nat.le_trans (dok_len h) (by decide)) hc W hr
  rw [valid_any h, hb] at this
  exact this
theorem ask_d {nx : Int} {l : List S36} {n : Nat} {t nx2 er ck : Int} {l2 : List S36} {p : Nat} (hn : n = l.length) (HA : askR nx l t z29 = (nx2, l2, er, ck)) (hp : p = l2.length) (A : Option Addr) (c : Nat) (hc : n ≤ c) (W : World) (hr : Kd.C k36 W A n l) :
    Calls Tryd.prog 10 #[.agg #[.int .u64 nx, .slice A n c], .int .i64 t, .agg #[.int .u32 0, .int .u32 0, .int .u64 0, .int .u64 0, .int .u64 0, .int .u64 0, .int .u64 0, .int .u64 0, .int .u64 0]] W fun e w' => ∃ (A' : Option Addr) (c' : Nat), e = .returned (.tuple #[.agg #[.int .u64 nx2, .slice A' p c'], .int .u64 ck, .int .i64 er]) ∧ p ≤ c' ∧ Kd.R k36 36 w' W.heap.size (fun _ => True) (.slice A' p c') l2 ∧ Below W.heap.size W w' := by
  subst hn
  refine (ask_w nx A c l t z29 hc W hr).mono ?_
  rintro e w' ⟨v, he, hR, hb⟩
  rw [HA] at he hR
  dsimp only at he hR
  obtain ⟨A', c', h1, h2, h3⟩ := Kd.R_reads hR
  subst h1
  subst he
  subst hp
  exact ⟨A', c', rfl, h2, hR, hb⟩
theorem take_d {nx : Int} {l : List S36} {n : Nat} {nx2 er : Int} {x : S36} {l2 : List S36} {p : Nat} (hn : n = l.length) (HA : takeR nx l = (nx2, l2, er, x)) (hp : p = l2.length) (A : Option Addr) (c : Nat) (hc : n ≤ c) (W : World) (hr : Kd.C k36 W A n l) :
    Calls Tryd.prog 12 #[.agg #[.int .u64 nx, .slice A n c]] W fun e w' => ∃ (A' : Option Addr) (c' : Nat), e = .returned (.tuple #[.agg #[.int .u64 nx2, .slice A' p c'], .agg #[.int .u64 x.f0, .int .i64 x.f1, .int .u32 x.f2.f0, .int .u32 x.f2.f1, .int .u64 x.f2.f2, .int .u64 x.f2.f3.f0, .int .u64 x.f2.f3.f1, .int .u64 x.f2.f3.f2, .int .u64 x.f2.f3.f3, .int .u64 x.f2.f3.f4, .int .u64 x.f2.f3.f5, .bool x.f3], .int .i64 er]) ∧ p ≤ c' ∧ Kd.R k36 36 w' W.heap.size (fun _ => True) (.slice A' p c') l2 ∧ Below W.heap.size W w' := by
  subst hn
  refine (take_w nx A c l hc W hr).mono ?_
  rintro e w' ⟨v, he, hR, hb⟩
  rw [HA] at he hR
  dsimp only at he hR
  obtain ⟨A', c', h1, h2, h3⟩ := Kd.R_reads hR
  subst h1
  subst he
  subst hp
  exact ⟨A', c', rfl, h2, hR, hb⟩
theorem ans_d {nx : Int} {l : List S36} {n : Nat} {ck nx2 er td : Int} {go g2 : Bool} {ret r2 : Int} {l2 : List S36} {p : Nat} (hn : n = l.length) (HA : ansR nx l ck go ret = (nx2, l2, er, td, g2, r2)) (hp : p = l2.length) (A : Option Addr) (c : Nat) (hc : n ≤ c) (W : World) (hT : Tab W) (hr : Kd.C k36 W A n l) :
    Calls Tryd.prog 15 #[.agg #[.int .u64 nx, .slice A n c], .int .u64 ck, .agg #[.bool go, .int .i64 ret]] W fun e w' => ∃ (A' : Option Addr) (c' : Nat), e = .returned (.tuple #[.agg #[.int .u64 nx2, .slice A' p c'], .int .i64 td, .agg #[.int .i64 0, .bool g2, .int .i64 r2, .bool false, .int .u16 0, .bool false, .int .i64 0], .int .i64 er]) ∧ p ≤ c' ∧ Kd.R k36 36 w' W.heap.size (fun _ => True) (.slice A' p c') l2 ∧ Below W.heap.size W w' := by
  subst hn
  refine (ans_w nx A c l ck go ret hc W hT hr).mono ?_
  rintro e w' ⟨v, he, hR, hb⟩
  rw [HA] at he hR
  dsimp only at he hR
  obtain ⟨A', c', h1, h2, h3⟩ := Kd.R_reads hR
  subst h1
  subst he
  subst hp
  exact ⟨A', c', rfl, h2, hR, hb⟩
theorem gone_d {nx : Int} {l : List S36} {n : Nat} {t nx2 er : Int} {bw : Bool} {l2 : List S36} {p : Nat} (hn : n = l.length) (HA : goneR nx l t = (nx2, l2, er, bw)) (hp : p = l2.length) (A : Option Addr) (c : Nat) (hc : n ≤ c) (W : World) (hr : Kd.C k36 W A n l) :
    Calls Tryd.prog 17 #[.agg #[.int .u64 nx, .slice A n c], .int .i64 t] W fun e w' => ∃ (A' : Option Addr) (c' : Nat), e = .returned (.tuple #[.agg #[.int .u64 nx2, .slice A' p c'], .bool bw, .int .i64 er]) ∧ p ≤ c' ∧ Kd.R k36 36 w' W.heap.size (fun _ => True) (.slice A' p c') l2 ∧ Below W.heap.size W w' := by
  subst hn
  refine (gone_w nx A c l t hc W hr).mono ?_
  rintro e w' ⟨v, he, hR, hb⟩
  rw [HA] at he hR
  dsimp only at he hR
  obtain ⟨A', c', h1, h2, h3⟩ := Kd.R_reads hR
  subst h1
  subst he
  subst hp
  exact ⟨A', c', rfl, h2, hR, hb⟩
end Go.Proofs.YtcbiehinhmkjmaaDoor.NB
