import Derived.Test.YtclkphiabgajpaaPBx4
import Derived.Test.YtclkphiabgajpaaPBx3
import Derived.Shelf.Spec.SlicesInsert
import Derived.Shelf.Spec.SlicesInsertGrow
import Derived.Shelf.Slices.Delete
namespace Go.Proofs.Ytclkphiabgajpaa.TA
open Go.RowKit Go.Proofs.YtclkphiabgajpaaW.PrintWords Go.Proofs.YtclkphiabgajpaaW.PrintLast Go.Proofs.YtclkphiabgajpaaW.PrintMore
set_option linter.unusedVariables false
set_option linter.unusedSimpArgs false
/-- The numbers of the shelf's functions in this program. -/
def rho : Go.Shelf.Ren := ⟨fun x => if x = 21 then 25 else if x = 23 then 27 else if x = 27 then 33 else if x = 28 then 34 else if x = 35 then 36 else if x = 39 then 37 else x, fun x => x, fun x => x⟩
theorem lays21 : Lays2.n21 Try.prog rho where
  mixed := by kernel_rfl
  f21 := by kernel_rfl
  f27 := by kernel_rfl
  f28 := by kernel_rfl
  f35 := by kernel_rfl
  f39 := by kernel_rfl
  t0 := by kernel_rfl
  a0 := fun _ => by kernel_rfl
  z0 := fun _ => by kernel_rfl
  v0 := fun _ => by kernel_rfl
  t3 := by kernel_rfl
  a3 := fun _ => by kernel_rfl
  z3 := fun _ => by kernel_rfl
  v3 := fun _ => by kernel_rfl
  t4 := by kernel_rfl
  a4 := fun _ => by kernel_rfl
  z4 := fun _ => by kernel_rfl
  v4 := fun _ => by kernel_rfl
  t22 := by kernel_rfl
  a22 := fun _ => by kernel_rfl
  z22 := fun _ => by kernel_rfl
  v22 := fun _ => by kernel_rfl
  i3 := by kernel_rfl
theorem lays23 : Lays2.n23 Try.prog rho where
  mixed := by kernel_rfl
  f23 := by kernel_rfl
  t0 := by kernel_rfl
  a0 := fun _ => by kernel_rfl
  z0 := fun _ => by kernel_rfl
  v0 := fun _ => by kernel_rfl
  t3 := by kernel_rfl
  a3 := fun _ => by kernel_rfl
  z3 := fun _ => by kernel_rfl
  v3 := fun _ => by kernel_rfl
  t4 := by kernel_rfl
  a4 := fun _ => by kernel_rfl
  z4 := fun _ => by kernel_rfl
  v4 := fun _ => by kernel_rfl
  t22 := by kernel_rfl
  a22 := fun _ => by kernel_rfl
  z22 := fun _ => by kernel_rfl
  v22 := fun _ => by kernel_rfl
  i3 := by kernel_rfl
/-- A row of ints of the call's own: nil, or its block. -/
theorem row_out {W : World} {n0 : Nat} {ok : Nat → Prop} {v : Value} {xs : List Int} (h : Kd.R (Kd.int .i64) 3 W n0 ok v xs) :
    (v = .slice none 0 0 ∧ xs = []) ∨ ∃ g cap cur, v = .slice (some ⟨g, 0, none⟩) xs.length cap ∧ n0 ≤ g ∧ ok g ∧ W.heap[g]? = some (.cells cur 3 (0, 0)) ∧ xs.length ≤ cap ∧ cap ≤ maxLen ∧ cur.size = cap ∧ ∀ j x, xs[j]? = some x → W.cell? ⟨g, j, none⟩ = some (.int .i64 x) := by
  obtain ⟨h0, inner, ho, hr⟩ := h
  obtain ⟨A0, c0, hv, hc, hC⟩ := Kd.R_reads (show Kd.R (Kd.int .i64) 3 W n0 ok v xs from ⟨h0, inner, ho, hr⟩)
  rcases ho.2 with ⟨hv', hn⟩ | ⟨g, cap, cur, hv', hg, hh, hn, hm, hs, ht⟩
  · exact .inl ⟨hv', List.eq_nil_of_length_eq_zero hn⟩
  · refine .inr ⟨g, cap, cur, hv', hg, h0 g (by rw [hv']; rfl), hh, hn, hm, by rw [hs]; exact Nat.mul_one _, ?_⟩
    intro j x hx
    have hlt : j < xs.length := (List.getElem?_eq_some_iff.1 hx).1
    obtain ⟨ad, rfl, hel⟩ := hC.2.2 (by omega)
    rw [hv'] at hv
    injection hv with e1 e2 e3
    injection e1 with e1
    subst e1
    obtain ⟨cs, h1, h2, h3⟩ := hel j _ hx
    obtain rfl := h2
    have := h3 0 _ rfl
    have e1 : (Kd.int IntKind.i64).sz = 1 := rfl
    rw [e1] at this
    rw [Addr.add_lit, Nat.zero_add, Nat.mul_one, Nat.add_zero] at this
    exact this
theorem row_in {W : World} {n0 : Nat} {ok : Nat → Prop} {xs : List Int} {g cap : Nat} {cur : Array Value} (hg : n0 ≤ g) (hok : ok g) (hh : W.heap[g]? = some (.cells cur 3 (0, 0))) (hn : xs.length ≤ cap) (hm : cap ≤ maxLen) (hs : cur.size = cap)
    (hc : ∀ j x, xs[j]? = some x → W.cell? ⟨g, j, none⟩ = some (.int .i64 x)) : Kd.R (Kd.int .i64) 3 W n0 ok (.slice (some ⟨g, 0, none⟩) xs.length cap) xs := by
  refine ⟨fun k hk => ?_, xs.map (Value.int .i64), ⟨by rw [List.length_map]; exact (Nat.mul_one _).symm, .inr ⟨g, cap, cur, rfl, hg, hh, hn, hm, by rw [hs]; exact (Nat.mul_one _).symm, ?_⟩⟩, ?_⟩
  · have : g = k := by simpa [Value.ownBlock] using hk
    exact this ▸ hok
  · apply List.ext_getElem?
    intro j
    have e : (Kd.int IntKind.i64).sz = 1 := rfl
    rw [e, Nat.mul_one]
    by_cases hj : j < xs.length
    · have h1 := hc j _ (List.getElem?_eq_getElem hj)
      rw [blk_cell hh] at h1
      rw [List.getElem?_take_of_lt hj, List.getElem?_map, List.getElem?_eq_getElem hj, Array.getElem?_toList, h1]
      rfl
    · rw [List.getElem?_eq_none (by simp; omega), List.getElem?_eq_none (by simp; omega)]
  · exact Kd.reps_scalar xs
theorem setCells_blk (b : Nat) (e : TypeId) : ∀ (vs : List Value) (o : Nat) (w : World) (cur : Array Value), w.heap[b]? = some (.cells cur e (0, 0)) → ∃ cur', (w.setCells b o vs).heap[b]? = some (.cells cur' e (0, 0)) ∧ cur'.size = cur.size
  | [], _, _, cur, h => ⟨cur, h, rfl⟩
  | v :: r, o, w, cur, h => by
    obtain ⟨cur', h1, h2⟩ := setCells_blk b e r (o + 1) (w.setCell ⟨b, o, none⟩ v) (cur.setIfInBounds o v) (blk_put h o v rfl)
    exact ⟨cur', h1, by rw [h2]; simp⟩
theorem setCells_below {n0 b : Nat} (hb : n0 ≤ b) {w : World} : ∀ (vs : List Value) (o : Nat) (W : World), Below n0 w W → Below n0 w (W.setCells b o vs)
  | [], _, _, h => h
  | v :: r, o, W, h => setCells_below hb r (o + 1) _ (Below.setCell h hb _)
theorem ins_get (xs : List Int) (i : Nat) (x : Int) (hi : i ≤ xs.length) (j : Nat) (y : Int) (h : (xs.take i ++ x :: xs.drop i)[j]? = some y) : (j < i ∧ xs[j]? = some y) ∨ (j = i ∧ y = x) ∨ (i < j ∧ xs[j - 1]? = some y) := by
  rw [List.getElem?_append] at h
  rw [List.length_take, Nat.min_eq_left hi] at h
  by_cases h1 : j < i
  · rw [if_pos h1, List.getElem?_take_of_lt h1] at h
    exact .inl ⟨h1, h⟩
  · rw [if_neg h1] at h
    by_cases h2 : j = i
    · subst h2
      simp at h
      exact .inr (.inl ⟨rfl, h.symm⟩)
    · obtain ⟨k, hk⟩ : ∃ k, j - i = k + 1 := ⟨j - i - 1, by omega⟩
      rw [hk, List.getElem?_cons_succ, List.getElem?_drop] at h
      exact .inr (.inr ⟨by omega, by rw [show j - 1 = i + k by omega]; exact h⟩)
theorem ins_len (xs : List Int) (i : Nat) (x : Int) (hi : i ≤ xs.length) : (xs.take i ++ x :: xs.drop i).length = xs.length + 1 := by
  rw [List.length_append, List.length_take, List.length_cons, List.length_drop]; omega
theorem map_get {xs : List Int} {j : Nat} {u : Value} (h : (xs.map (Value.int .i64))[j]? = some u) : ∃ x, xs[j]? = some x ∧ u = .int .i64 x := by
  rw [List.getElem?_map] at h
  obtain ⟨x, h1, h2⟩ := Option.map_eq_some_iff.1 h
  exact ⟨x, h1, h2.symm⟩
theorem map_one (xs : List Int) : ∀ u ∈ xs.map (Value.int .i64), u.oneCell' = true := by
  intro u hu
  obtain ⟨x, _, rfl⟩ := List.mem_map.1 hu
  rfl
theorem one_one (x : Int) : ∀ u ∈ [Value.int .i64 x], u.oneCell' = true := by
  intro u hu
  rw [List.mem_singleton.1 hu]; rfl
theorem one_get {W : World} {vb : Nat} {x : Int} (hv : W.heap[vb]? = some (.cells #[.int .i64 x] 3 (0, 0))) (j : Nat) (u : Value) (h : [Value.int .i64 x][j]? = some u) : W.cell? ⟨vb, 0 + j, none⟩ = some u := by
  rw [Nat.zero_add, blk_cell hv]
  simpa using h
theorem cells_map {W : World} {g : Nat} {xs : List Int} (hc : ∀ j x, xs[j]? = some x → W.cell? ⟨g, j, none⟩ = some (.int .i64 x)) (j : Nat) (u : Value) (h : (xs.map (Value.int .i64))[j]? = some u) : W.cell? ⟨g, 0 + j, none⟩ = some u := by
  obtain ⟨x, h1, rfl⟩ := map_get h
  rw [Nat.zero_add]; exact hc j x h1
theorem blk_some {W : World} {g : Nat} {cur : Array Value} {e : TypeId} (h : W.heap[g]? = some (.cells cur e (0, 0))) {j : Nat} (hj : j < cur.size) : (W.cell? ⟨g, 0 + j, none⟩).isSome = true := by
  rw [Nat.zero_add, blk_cell h, Array.getElem?_eq_getElem hj]; rfl
theorem blk_free {W : World} {g : Nat} {cur : Array Value} {e : TypeId} (h : W.heap[g]? = some (.cells cur e (0, 0))) (j : Nat) : W.frozen? ⟨g, j, none⟩ = false := blk_frozen h j
/-- What slices.Insert of one number makes. -/
def Ins (n0 : Nat) (W : World) (L : List Int) (e : Ending) (W' : World) : Prop := ∃ v', e = .returned v' ∧ Kd.R (Kd.int .i64) 3 W' n0 (fun _ => True) v' L ∧ Below n0 W W'
theorem Ins.mk' {n0 : Nat} {W W' : World} {L : List Int} {n cap g : Nat} {cur : Array Value} (hl : L.length = n) (hb : Below n0 W W') (hg : n0 ≤ g) (hh : W'.heap[g]? = some (.cells cur 3 (0, 0))) (hn : n ≤ cap) (hm : cap ≤ maxLen) (hs : cur.size = cap)
    (hc : ∀ j x, L[j]? = some x → W'.cell? ⟨g, j, none⟩ = some (.int .i64 x)) : Ins n0 W L (.returned (.slice (some ⟨g, 0, none⟩) n cap)) W' := by
  subst hl
  exact ⟨_, rfl, row_in hg trivial hh hn hm hs hc, hb⟩
theorem zeros_size (k : Nat) : (Builtin.zeroCells (Value.int .i64 0).cells k).size = k := by rw [size_zeroCells]; exact Nat.mul_one k
theorem insert_w (n0 : Nat) (ok : Nat → Prop) (v : Value) (xs : List Int) (i : Nat) (x : Int) (vb : Nat) (W : World) (hR : Kd.R (Kd.int .i64) 3 W n0 ok v xs) (hv : W.heap[vb]? = some (.cells #[.int .i64 x] 3 (0, 0))) (hne : some vb ≠ v.ownBlock) (hi : i ≤ xs.length) (hlen : xs.length ≤ 1000000) (hn0 : n0 ≤ W.heap.size) :
    Calls Try.prog 25 #[v, .int .i64 i, .slice (some ⟨vb, 0, none⟩) 1 1] W (Ins n0 W (xs.take i ++ x :: xs.drop i)) := by
  have hlL := ins_len xs i x hi
  have hg := ins_get xs i x hi
  rcases row_out hR with ⟨rfl, rfl⟩ | ⟨g, cap, cur, rfl, hgn, _, hh, hnc, hm, hs, hc⟩
  · obtain rfl : i = 0 := by simpa using hi
    refine (Any2.slices_Insert_int_end_grow lays21 none 0 0 vb 0 1 1 [] [.int .i64 x] W (by omega) (by omega) (by omega) (by omega) rfl rfl (fun _ => rfl) (fun a h => by cases h) (fun j u h => one_get hv j u h) (one_one x)).mono ?_
    rintro e W' ⟨rfl, rfl⟩
    have h1 := grownCap_ge W (0 + 1) 0 (rho.t 3)
    have h2 := grownCap_le_maxLen W (0 + 1) 0 (rho.t 3) (by unfold maxLen; omega)
    have hnew : (W.drew.alloc (.cells (([] ++ [Value.int .i64 x]).toArray ++ Builtin.zeroCells (Value.int .i64 0).cells (grownCap W (0 + 1) 0 (rho.t 3) - (0 + 1))) (rho.t 3))).heap[W.heap.size]? = _ := heap_alloc_new W.drew _
    refine Ins.mk' (by simp) (below_alloc (below_drew (Below.refl _ _)) _ |> fun h => h.mono hn0) hn0 hnew h1 h2 (by simp only [List.nil_append, Array.size_append, zeros_size, List.size_toArray, List.length_singleton]; omega) ?_
    intro j y hy
    rw [blk_cell hnew]
    obtain ⟨rfl, rfl⟩ : j = 0 ∧ y = x := by
      rcases hg j y hy with ⟨h, _⟩ | ⟨h, h'⟩ | ⟨_, h⟩
      · omega
      · exact ⟨h, h'⟩
      · simp at h
    rw [Array.getElem?_append_left (by simp), List.getElem?_toArray]; rfl
  · by_cases hin : i = xs.length
    · subst hin
      by_cases hroom : xs.length + 1 ≤ cap
      · refine (Any2.slices_Insert_int_end_room lays21 g 0 xs.length cap vb 0 1 1 [.int .i64 x] W (by omega) hroom (by unfold maxLen at hm; omega) rfl (fun j hj => by rw [Nat.add_assoc]; exact blk_some hh (by omega)) (fun j hj => blk_free hh _) (fun j u h => one_get hv j u h) (one_one x)).mono ?_
        rintro e W' ⟨rfl, rfl⟩
        obtain ⟨cur', hh', hs'⟩ := setCells_blk g 3 [.int .i64 x] (0 + xs.length) W cur hh
        refine Ins.mk' (by rw [hlL]) (setCells_below hgn _ _ _ (Below.refl _ _)) hgn hh' hroom hm (by rw [hs', hs]) ?_
        intro j y hy
        rcases hg j y hy with ⟨h, h'⟩ | ⟨h, h'⟩ | ⟨h, h'⟩
        · rw [World.cell?_setCells_out g _ _ _ _ (fun _ _ => .inl (by show j < _; omega))]
          exact hc j y h'
        · subst h h'
          have := World.cell?_setCells_in g [.int .i64 y] (0 + xs.length) W (fun j hj => by rw [Nat.add_assoc]; exact blk_some hh (by simp at hj; omega)) 0 (by simp)
          simpa using this
        · have := (List.getElem?_eq_some_iff.1 h').1
          omega
      · refine (Any2.slices_Insert_int_end_grow lays21 (some ⟨g, 0, none⟩) xs.length cap vb 0 1 1 (xs.map (Value.int .i64)) [.int .i64 x] W (by omega) hnc (by omega) (by omega) (by simp) rfl (fun h => by cases h) (fun a ha j u h => by cases ha; rw [Addr.add_lit]; exact cells_map hc j u h) (fun j u h => one_get hv j u h) (one_one x)).mono ?_
        rintro e W' ⟨rfl, rfl⟩
        have h1 := grownCap_ge W (xs.length + 1) cap (rho.t 3)
        have h2 := grownCap_le_maxLen W (xs.length + 1) cap (rho.t 3) (by unfold maxLen; omega)
        have hnew : (W.drew.alloc (.cells ((xs.map (Value.int .i64) ++ [Value.int .i64 x]).toArray ++ Builtin.zeroCells (Value.int .i64 0).cells (grownCap W (xs.length + 1) cap (rho.t 3) - (xs.length + 1))) (rho.t 3))).heap[W.heap.size]? = _ := heap_alloc_new W.drew _
        refine Ins.mk' (by rw [hlL]) (below_alloc (below_drew (Below.refl _ _)) _ |> fun h => h.mono hn0) hn0 hnew h1 h2 (by simp only [Array.size_append, zeros_size, List.size_toArray, List.length_append, List.length_map, List.length_singleton]; omega) ?_
        intro j y hy
        rw [blk_cell hnew]
        have hj : j < xs.length + 1 := by rw [← hlL]; exact (List.getElem?_eq_some_iff.1 hy).1
        rw [Array.getElem?_append_left (by simp; omega), List.getElem?_toArray]
        rcases hg j y hy with ⟨h, h'⟩ | ⟨h, h'⟩ | ⟨h, h'⟩
        · rw [List.getElem?_append_left (by simp; omega), List.getElem?_map, h']; rfl
        · subst h h'
          rw [List.getElem?_append_right (by simp)]; simp
        · omega
    · have hlt : i < xs.length := by omega
      by_cases hroom : xs.length + 1 ≤ cap
      · refine (Any2.slices_Insert_int_shift lays21 g 0 xs.length cap i vb 0 1 1 (xs.map (Value.int .i64)) [.int .i64 x] W hlt (by omega) hroom (by unfold maxLen at hm; omega) (fun h => hne (by rw [h]; rfl)) (by simp) rfl (cells_map hc) (fun j hj => blk_some hh (by omega)) (fun j hj => blk_free hh _) (fun j u h => one_get hv j u h) (map_one xs) (one_one x) 3 3 1 cap (by simp [World.shape?, hv]) (by simp [World.shape?, hh, hs]) (by omega) (blk_free hv _) (blk_free hv _)).mono ?_
        rintro e W' ⟨rfl, rfl⟩
        obtain ⟨cur', hh', hs'⟩ := setCells_blk g 3 ((xs.map (Value.int .i64)).drop i) (0 + (i + 1)) W.drew cur hh
        obtain ⟨cur2, hh2, hs2⟩ := setCells_blk g 3 [.int .i64 x] (0 + i) _ cur' hh'
        refine Ins.mk' (by rw [hlL]) (setCells_below hgn _ _ _ (setCells_below hgn _ _ _ (below_drew (Below.refl _ _)))) hgn hh2 hroom hm (by rw [hs2, hs', hs]) ?_
        intro j y hy
        have hj : j < xs.length + 1 := by rw [← hlL]; exact (List.getElem?_eq_some_iff.1 hy).1
        rcases hg j y hy with ⟨h, h'⟩ | ⟨h, h'⟩ | ⟨h, h'⟩
        · rw [World.cell?_setCells_out g _ _ _ _ (fun _ _ => .inl (by show j < _; omega)), World.cell?_setCells_out g _ _ _ _ (fun _ _ => .inl (by show j < _; omega))]
          exact hc j y h'
        · subst h h'
          have := World.cell?_setCells_in g [.int .i64 y] (0 + j) (W.drew.setCells g (0 + (j + 1)) ((xs.map (Value.int .i64)).drop j)) (fun k hk => by rw [Nat.add_assoc]; exact blk_some hh' (by simp at hk; omega)) 0 (by simp)
          simpa using this
        · rw [World.cell?_setCells_out g _ _ _ _ (fun _ _ => .inr (by show _ ≤ j; simp; omega))]
          have hd : ((xs.map (Value.int .i64)).drop i).length = xs.length - i := by simp
          have := World.cell?_setCells_in g ((xs.map (Value.int .i64)).drop i) (0 + (i + 1)) W.drew (fun k hk => by rw [Nat.add_assoc]; exact blk_some (W := W.drew) hh (by omega)) (j - (i + 1)) (by omega)
          rw [show 0 + (i + 1) + (j - (i + 1)) = j by omega] at this
          rw [this, ← List.getElem?_eq_getElem, List.getElem?_drop, List.getElem?_map, show i + (j - (i + 1)) = j - 1 by omega, h']
          rfl
      · refine (Any2.slices_Insert_int_grow lays21 g 0 xs.length cap i vb 0 1 1 (xs.map (Value.int .i64)) [.int .i64 x] W hlt (by omega) hnc (by omega) (by omega) (by simp) rfl (cells_map hc) (fun j u h => one_get hv j u h) (map_one xs) (one_one x)).mono ?_
        rintro e W' ⟨rfl, rfl⟩
        have h1 := grownCap_ge W (xs.length + 1) cap (rho.t 3)
        have h2 := grownCap_le_maxLen W (xs.length + 1) cap (rho.t 3) (by unfold maxLen; omega)
        obtain ⟨ROW, hROW⟩ : ∃ ROW, ROW = ((xs.map (Value.int .i64)).take i).toArray ++ Builtin.zeroCells (Value.int .i64 0).cells (xs.length + 1 - i) ++ Builtin.zeroCells (Value.int .i64 0).cells (grownCap W (xs.length + 1) cap (rho.t 3) - (xs.length + 1)) := ⟨_, rfl⟩
        rw [← hROW]
        have hRS : ROW.size = grownCap W (xs.length + 1) cap (rho.t 3) := by
          rw [hROW]; simp only [Array.size_append, zeros_size, List.size_toArray, List.length_take, List.length_map]; omega
        have hnew : (W.alloc (.cells ROW (rho.t 3))).drew.heap[W.heap.size]? = some (.cells ROW 3 (0, 0)) := heap_alloc_new W _
        obtain ⟨cur', hh', hs'⟩ := setCells_blk W.heap.size 3 [.int .i64 x] i _ ROW hnew
        obtain ⟨cur2, hh2, hs2⟩ := setCells_blk W.heap.size 3 ((xs.map (Value.int .i64)).drop i) (i + 1) ((W.alloc (.cells ROW (rho.t 3))).drew.setCells W.heap.size i [.int .i64 x]).drew cur' hh'
        refine Ins.mk' (by rw [hlL]) (setCells_below hn0 _ _ _ (below_drew (setCells_below hn0 _ _ _ (below_drew (below_alloc (Below.refl _ _) _ |> fun h => h.mono hn0))))) hn0 hh2 h1 h2 (by rw [hs2, hs', hRS]) ?_
        intro j y hy
        have hj : j < xs.length + 1 := by rw [← hlL]; exact (List.getElem?_eq_some_iff.1 hy).1
        rcases hg j y hy with ⟨h, h'⟩ | ⟨h, h'⟩ | ⟨h, h'⟩
        · rw [World.cell?_setCells_out _ _ _ _ _ (fun _ _ => .inl (by show j < _; omega))]
          refine (World.cell?_setCells_out _ _ _ _ _ (fun _ _ => .inl (by show j < _; omega))).trans ?_
          rw [blk_cell hnew, hROW, Array.getElem?_append_left (by simp only [Array.size_append, zeros_size, List.size_toArray, List.length_take, List.length_map]; omega), Array.getElem?_append_left (by simp; omega), List.getElem?_toArray, List.getElem?_take_of_lt h, List.getElem?_map, h']
          rfl
        · subst h h'
          rw [World.cell?_setCells_out _ _ _ _ _ (fun _ _ => .inl (by show j < _; omega))]
          have := World.cell?_setCells_in W.heap.size [.int .i64 y] j (W.alloc (.cells ROW (rho.t 3))).drew (fun k hk => by have := blk_some hnew (j := j + k) (by simp at hk; omega); rwa [Nat.zero_add] at this) 0 (by simp)
          simpa using this
        · have hd : ((xs.map (Value.int .i64)).drop i).length = xs.length - i := by simp
          have := World.cell?_setCells_in W.heap.size ((xs.map (Value.int .i64)).drop i) (i + 1) ((W.alloc (.cells ROW (rho.t 3))).drew.setCells W.heap.size i [.int .i64 x]).drew (fun k hk => by have := blk_some (W := ((W.alloc (.cells ROW (rho.t 3))).drew.setCells W.heap.size i [.int .i64 x]).drew) hh' (j := i + 1 + k) (by omega); rwa [Nat.zero_add] at this) (j - (i + 1)) (by omega)
          rw [show i + 1 + (j - (i + 1)) = j by omega] at this
          rw [this, ← List.getElem?_eq_getElem, List.getElem?_drop, List.getElem?_map, show i + (j - (i + 1)) = j - 1 by omega, h']
          rfl
theorem mapBlock_blk {W : World} {g : Nat} {cur : Array Value} {e : TypeId} (f : Array Value → Array Value) (h : W.heap[g]? = some (.cells cur e (0, 0))) : (Go.Sort.mapBlock W g f).heap[g]? = some (.cells (f cur) e (0, 0)) := by
  unfold Go.Sort.mapBlock
  simp [Array.getElem?_modify, h, Go.Sort.onCells]
theorem mapBlock_far (W : World) {g k : Nat} (f : Array Value → Array Value) (h : k ≠ g) : (Go.Sort.mapBlock W g f).heap[k]? = W.heap[k]? := by
  unfold Go.Sort.mapBlock
  rw [Array.getElem?_modify, if_neg (fun e => h e.symm)]
theorem mapBlock_below {n0 g : Nat} (W : World) (q : Nat) (f : Array Value → Array Value) (hg : n0 ≤ g) : Below n0 W (Go.Sort.mapBlock (Go.Sort.ahead W q) g f) :=
  ⟨rfl, rfl, rfl, by simp [Go.Sort.mapBlock, Go.Sort.ahead], fun k hk => (mapBlock_far _ f (by omega)).trans rfl⟩
theorem del_get (xs : List Int) (i : Nat) (hi : i < xs.length) (j : Nat) (y : Int) (h : (xs.take i ++ xs.drop (i + 1))[j]? = some y) : (xs.take i ++ xs.drop (i + 1) ++ List.replicate 1 0)[j]? = some y := by
  rw [List.getElem?_append_left (List.getElem?_eq_some_iff.1 h).1]; exact h
theorem delete_w (n0 : Nat) (ok : Nat → Prop) (v : Value) (xs : List Int) (i : Nat) (W : World) (hR : Kd.R (Kd.int .i64) 3 W n0 ok v xs) (hi : i < xs.length) (hlen : xs.length ≤ 1000000) (hn0 : n0 ≤ W.heap.size) :
    Calls Try.prog 27 #[v, .int .i64 i, .int .i64 ((i : Int) + 1)] W (Ins n0 W (xs.take i ++ xs.drop (i + 1))) := by
  rcases row_out hR with ⟨rfl, rfl⟩ | ⟨g, cap, cur, rfl, hgn, _, hh, hnc, hm, hs, hc⟩
  · simp at hi
  · have hH : Go.Sort.Holds (Value.int .i64) W g 0 xs.toArray := fun j hj => by
      rw [Nat.zero_add]
      refine ⟨?_, blk_free hh _⟩
      have hj' : j < xs.length := by simpa using hj
      rw [hc j _ (List.getElem?_eq_getElem hj')]
      rw [getElem!_pos _ j hj]
      simp
    have hd := Any.slices_Delete_int lays23 g 0 cap i (i + 1) xs W hH hnc (by unfold maxLen at hm; omega) (by omega) (by omega)
    rw [show ((i + 1 : Nat) : Int) = (i : Int) + 1 from by omega, show i + 1 - i = 1 by omega] at hd
    refine hd.mono ?_
    rintro e W' ⟨rfl, q, rfl⟩
    have hh0 : (Go.Sort.ahead W q).heap[g]? = some (.cells cur 3 (0, 0)) := hh
    have hh' := mapBlock_blk (Go.Sort.putCells (Value.int .i64) 0 (xs.take i ++ xs.drop (i + 1) ++ List.replicate 1 0).toArray) hh0
    refine Ins.mk' (by simp; omega) (mapBlock_below W q _ hgn) hgn hh' (by omega) hm (by simp [Go.Sort.putCells, hs]) ?_
    intro j y hy
    have hy' := del_get xs i hi j y hy
    have hj := (List.getElem?_eq_some_iff.1 hy').1
    unfold Go.Sort.putRow
    rw [blk_cell hh']
    have hjc : j < cur.size := by simp at hj; omega
    unfold Go.Sort.putCells
    rw [Array.getElem?_mapIdx, Array.getElem?_eq_getElem hjc]
    simp only [Option.map_some, Nat.zero_add, Nat.zero_le, true_and, Nat.sub_zero]
    rw [if_pos (by simpa using hj), getElem!_pos _ j (by simpa using hj)]
    congr 2
    have := (List.getElem?_eq_some_iff.1 hy').2
    simpa using this
end Go.Proofs.Ytclkphiabgajpaa.TA
