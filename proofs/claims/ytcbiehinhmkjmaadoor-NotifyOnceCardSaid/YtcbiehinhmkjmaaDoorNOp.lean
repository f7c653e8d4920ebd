import Derived.Test.YtcbiehinhmkjmaaDoorNWf
import Derived.Test.YtcbiehinhmkjmaaDoorNQd
namespace Go.Proofs.YtcbiehinhmkjmaaDoor.NB
open Go.RowKit Go.Proofs.YtcbiehinhmkjmaaDoorW.PrintWords Go.Proofs.YtcbiehinhmkjmaaDoorW.PrintLast Go.Proofs.YtcbiehinhmkjmaaDoorW.PrintMore
open Go.Proofs.YtcbiehinhmkjmaaDoor.PB
set_option linter.unusedVariables false
set_option linter.unusedSimpArgs false

theorem dok_iff (nx : Int) (l : List S36) : Dok nx l ↔ 1 ≤ nx ∧ nx ≤ 4611686018427387904 ∧ (l.length : Int) ≤ 8 ∧ (∀ x ∈ l, 1 ≤ x.f0 ∧ x.f0 < nx ∧ 1 ≤ x.f1 ∧ x.f1 ≤ 20) ∧ (l.map fun x => (x.f0, x.f1)).Pairwise (fun a b => a.1 < b.1 ∧ a.2 ≠ b.2) := by
  constructor
  · intro h
    have hs := dok_sorted h
    obtain ⟨h1, h2, h3, h4⟩ := h
    refine ⟨h1, h2, h3, fun x hx => ?_, ?_⟩
    · obtain ⟨i, hi, rfl⟩ := List.mem_iff_getElem.1 hx
      obtain ⟨k1, k2, _, k4, k5, _⟩ := h4 i hi
      unfold ckOf tidOf at *
      rw [rd_at hi] at k1 k2 k4 k5
      exact ⟨k1, k2, k4, k5⟩
    · rw [List.pairwise_map, List.pairwise_iff_getElem]
      intro i j hi hj hij
      have e1 := hs i j hij hj
      have e2 := (h4 j hj).2.2.2.2.2
      unfold ckOf tidOf at *
      rw [rd_at hi, rd_at hj] at e1
      rw [rd_at hj, List.any_eq_false] at e2
      refine ⟨e1, fun e => e2 l[i] (List.mem_iff_getElem.2 ⟨i, by rw [List.length_take]; omega, by rw [List.getElem_take]⟩) (by simpa using e)⟩
  · rintro ⟨h1, h2, h3, h4, h5⟩
    rw [List.pairwise_map, List.pairwise_iff_getElem] at h5
    refine ⟨h1, h2, h3, fun i hi => ?_⟩
    have h6 := h4 _ (List.getElem_mem hi)
    unfold okAt ckOf tidOf
    rw [rd_at hi]
    refine ⟨h6.1, h6.2.1, fun hp => ?_, h6.2.2.1, h6.2.2.2, ?_⟩
    · rw [show ((i : Int) - 1) = ((i - 1 : Nat) : Int) by omega, rd_at (by omega)]
      exact (h5 (i - 1) i (by omega) hi (by omega)).1
    · rw [List.any_eq_false]
      intro y hy
      obtain ⟨q, hq, rfl⟩ := List.mem_iff_getElem.1 hy
      rw [List.length_take] at hq
      rw [List.getElem_take]
      have := (h5 q i (by omega) hi (by omega)).2
      simpa using this
def hh (nx : Int) : Int → Bool := fun c => decide (1 ≤ c ∧ c < nx)
/-- What a run of deeds keeps: the desk, the cookies given, whose they are, which were taken, which are over, the last one taken. -/
structure Iv (nx : Int) (l : List S36) (gv : List Int) (f : Int → Int) (tkn ov : Int → Bool) (last : Int) : Prop where
  dok : Dok nx l
  gh : ∀ c ∈ gv, 1 ≤ c ∧ c < nx
  mem : ∀ x ∈ l, ov x.f0 = false ∧ f x.f0 = x.f1 ∧ tkn x.f0 = x.f3
  cov : ∀ c, 1 ≤ c → c < nx → ov c = false → ∃ x ∈ l, x.f0 = c
  new : ∀ c, nx ≤ c → tkn c = false ∧ ov c = false
  l0 : 0 ≤ last
  lnx : last < nx
  lst : ∀ x ∈ l, x.f3 = false → last < x.f0
theorem iv_start : Iv 1 [] [] (fun _ => 0) (fun _ => false) (fun _ => false) 0 :=
  ⟨(dok_iff 1 []).2 ⟨by omega, by omega, by decide, fun x hx => absurd hx List.not_mem_nil, List.Pairwise.nil⟩, fun c hc => absurd hc List.not_mem_nil, fun x hx => absurd hx List.not_mem_nil, fun c h1 h2 => by omega, fun _ _ => ⟨rfl, rfl⟩, by omega, by omega, fun x hx => absurd hx List.not_mem_nil⟩
theorem hh_step {nx : Int} (h : 1 ≤ nx) : (fun j => j == nx || hh nx j) = hh (nx + 1) := by
  funext j
  unfold hh
  rw [Bool.eq_iff_iff]
  simp
  omega
theorem iv_ask {nx : Int} {l : List S36} {gv : List Int} {f : Int → Int} {tkn ov : Int → Bool} {last t : Int} (x : S29) (I : Iv nx l gv f tkn ov last) (h : askE nx l t = 0) :
    Iv (nx + 1) (l ++ [newN nx t x]) (gv ++ [nx]) (fun j => if j = nx then t else f j) tkn ov last := by
  have hd := (dok_iff nx l).1 I.dok
  refine ⟨ask_dok x I.dok h, fun c hc => ?_, fun y hy => ?_, fun c h1 h2 h3 => ?_, fun c hc => I.new c (by omega), I.l0, by have := I.lnx; omega, fun y hy h3 => ?_⟩
  · rw [List.mem_append, List.mem_singleton] at hc
    rcases hc with hc | rfl
    · have := I.gh c hc; omega
    · omega
  · rw [List.mem_append, List.mem_singleton] at hy
    rcases hy with hy | rfl
    · have h1 := I.mem y hy
      have h2 := hd.2.2.2.1 y hy
      refine ⟨h1.1, ?_, h1.2.2⟩
      show (if y.f0 = nx then t else f y.f0) = y.f1
      rw [if_neg (by omega)]
      exact h1.2.1
    · have := I.new nx (Int.le_refl _)
      refine ⟨this.2, ?_, this.1⟩
      show (if nx = nx then t else f nx) = t
      rw [if_pos rfl]
  · by_cases e : c = nx
    · exact ⟨newN nx t x, List.mem_append_right _ (List.mem_singleton_self _), e.symm⟩
    · obtain ⟨y, hy, hy2⟩ := I.cov c h1 (by omega) h3
      exact ⟨y, List.mem_append_left _ hy, hy2⟩
  · rw [List.mem_append, List.mem_singleton] at hy
    rcases hy with hy | rfl
    · exact I.lst y hy h3
    · exact I.lnx
theorem take_at {l : List S36} (h : takeE l = 0) : ∃ (k : Nat) (hk : k < l.length), takeI l = k ∧ tookV l = tk l[k] ∧ takeL l = l.set k (tk l[k]) ∧ l[k].f3 = false ∧ ∀ q : Nat, (hq : q < k) → (l[q]'(by omega)).f3 = true := by
  have hne : takeI l ≠ -1 := by
    intro e
    unfold takeE at h
    rw [if_pos e] at h
    cases h
  rcases idx_cases (fun x => !x.f3) l with ⟨h1, _⟩ | ⟨k, hk, h1, h2, h3⟩
  · exact absurd h1 hne
  · have h4 : takeI l = (k : Int) := h1
    refine ⟨k, hk, h4, ?_, ?_, ?_, fun q hq => ?_⟩
    · unfold tookV
      rw [if_neg hne, h4, rd_at hk]
    · unfold takeL
      rw [h4, Int.toNat_natCast, rd_at hk]
    · rw [rd_at hk] at h2
      simpa using h2
    · have := h3 q hq
      rw [rd_at (by omega)] at this
      simpa using this
theorem iv_take {nx : Int} {l : List S36} {gv : List Int} {f : Int → Int} {tkn ov : Int → Bool} {last : Int} (I : Iv nx l gv f tkn ov last) (h : takeE l = 0) :
    (1 ≤ (tookV l).f0 ∧ (tookV l).f0 < nx ∧ tkn (tookV l).f0 = false ∧ ov (tookV l).f0 = false ∧ f (tookV l).f0 = (tookV l).f1 ∧ last < (tookV l).f0 ∧ (tookV l).f3 = true) ∧
    Iv nx (takeL l) gv f (fun j => j == (tookV l).f0 || tkn j) ov (tookV l).f0 := by
  obtain ⟨k, hk, _, e1, e2, h3, h4⟩ := take_at h
  have hd := (dok_iff nx l).1 I.dok
  have hm := I.mem _ (List.getElem_mem hk)
  have hb := hd.2.2.2.1 _ (List.getElem_mem hk)
  have hp := hd.2.2.2.2
  rw [List.pairwise_map, List.pairwise_iff_getElem] at hp
  rw [e1, e2]
  have hmap : (l.set k (tk l[k])).map (fun x => (x.f0, x.f1)) = l.map (fun x => (x.f0, x.f1)) := by
    rw [List.map_set]
    show (l.map fun x => (x.f0, x.f1)).set k (l[k].f0, l[k].f1) = _
    apply List.ext_getElem (by rw [List.length_set])
    intro i h1 h2
    rw [List.getElem_set]
    split
    · rename_i e; subst e; rw [List.getElem_map]
    · rfl
  have hat : ∀ y ∈ l.set k (tk l[k]), y = tk l[k] ∨ ∃ (j : Nat) (hj : j < l.length), j ≠ k ∧ y = l[j] := fun y hy => by
    obtain ⟨j, hj, rfl⟩ := List.mem_iff_getElem.1 hy
    rw [List.length_set] at hj
    rw [List.getElem_set]
    split
    · exact .inl rfl
    · rename_i e
      exact .inr ⟨j, hj, fun h => e h.symm, rfl⟩
  refine ⟨⟨hb.1, hb.2.1, by rw [show (tk l[k]).f0 = l[k].f0 from rfl, hm.2.2]; exact h3, hm.1, hm.2.1, I.lst l[k] (List.getElem_mem hk) h3, rfl⟩, ?_⟩
  refine ⟨(dok_iff _ _).2 ⟨hd.1, hd.2.1, by rw [List.length_set]; exact hd.2.2.1, fun y hy => ?_, by rw [hmap]; exact hd.2.2.2.2⟩, I.gh, fun y hy => ?_, fun c h1 h2 h5 => ?_, fun c hc => ⟨?_, (I.new c hc).2⟩, by show 0 ≤ l[k].f0; omega, hb.2.1, fun y hy h5 => ?_⟩
  · rcases hat y hy with rfl | ⟨j, hj, _, rfl⟩
    · exact hb
    · exact hd.2.2.2.1 _ (List.getElem_mem hj)
  · rcases hat y hy with rfl | ⟨j, hj, hjk, rfl⟩
    · exact ⟨hm.1, hm.2.1, by show (_ == _ || _) = true; simp⟩
    · have h6 := I.mem _ (List.getElem_mem hj)
      refine ⟨h6.1, h6.2.1, ?_⟩
      have hne : l[j].f0 ≠ l[k].f0 := by
        rcases Nat.lt_or_gt_of_ne hjk with h7 | h7
        · have := (hp j k hj hk h7).1; omega
        · have := (hp k j hk hj h7).1; omega
      have hb2 : (l[j].f0 == (tk l[k]).f0) = false := by
        rw [beq_eq_false_iff_ne]
        exact hne
      show (l[j].f0 == (tk l[k]).f0 || tkn l[j].f0) = l[j].f3
      rw [hb2, Bool.false_or]
      exact h6.2.2
  · obtain ⟨x, hx, rfl⟩ := I.cov c h1 h2 h5
    obtain ⟨j, hj, rfl⟩ := List.mem_iff_getElem.1 hx
    have hjs : j < (l.set k (tk l[k])).length := by rw [List.length_set]; exact hj
    refine ⟨(l.set k (tk l[k]))[j], List.getElem_mem hjs, ?_⟩
    rw [List.getElem_set]
    split
    · rename_i e; subst e; rfl
    · rfl
  · show (c == (tk l[k]).f0 || tkn c) = false
    have hb2 : (c == (tk l[k]).f0) = false := by
      rw [beq_eq_false_iff_ne]
      show c ≠ l[k].f0
      omega
    rw [hb2, (I.new c hc).1]
    rfl
  · rcases hat y hy with rfl | ⟨j, hj, hjk, rfl⟩
    · cases h5
    · rcases Nat.lt_or_gt_of_ne hjk with h7 | h7
      · have := h4 j h7
        rw [h5] at this
        cases this
      · exact (hp k j hk hj h7).1
theorem cut_erase (l : List S36) (k : Nat) : cut l k = l.eraseIdx k := (List.eraseIdx_eq_take_drop_succ _ _).symm
theorem iv_cut {nx : Int} {l : List S36} {gv : List Int} {f : Int → Int} {tkn ov : Int → Bool} {last : Int} (I : Iv nx l gv f tkn ov last) (k : Nat) (hk : k < l.length) :
    Iv nx (cut l k) gv f tkn (fun j => j == l[k].f0 || ov j) last := by
  have hd := (dok_iff nx l).1 I.dok
  have hp := hd.2.2.2.2
  rw [List.pairwise_map, List.pairwise_iff_getElem] at hp
  have hb := hd.2.2.2.1 _ (List.getElem_mem hk)
  rw [cut_erase]
  have hsub : (l.eraseIdx k).Sublist l := List.eraseIdx_sublist _ _
  have hat : ∀ y ∈ l.eraseIdx k, ∃ (j : Nat) (hj : j < l.length), j ≠ k ∧ l[j] = y := fun y hy => by
    obtain ⟨j, hj, h1, h2⟩ := List.mem_eraseIdx_iff_getElem.1 hy
    exact ⟨j, hj, h1, h2⟩
  have hne : ∀ (j : Nat) (hj : j < l.length), j ≠ k → l[j].f0 ≠ l[k].f0 := fun j hj hjk => by
    rcases Nat.lt_or_gt_of_ne hjk with h7 | h7
    · have := (hp j k hj hk h7).1; omega
    · have := (hp k j hk hj h7).1; omega
  refine ⟨(dok_iff _ _).2 ⟨hd.1, hd.2.1, ?_, fun y hy => hd.2.2.2.1 y (hsub.subset hy), hd.2.2.2.2.sublist (hsub.map _)⟩, I.gh, fun y hy => ?_, fun c h1 h2 h5 => ?_, fun c hc => ⟨(I.new c hc).1, ?_⟩, I.l0, I.lnx, fun y hy h5 => I.lst y (hsub.subset hy) h5⟩
  · have := hsub.length_le
    have := hd.2.2.1
    omega
  · have h6 := I.mem y (hsub.subset hy)
    obtain ⟨j, hj, hjk, rfl⟩ := hat y hy
    refine ⟨?_, h6.2⟩
    show (l[j].f0 == l[k].f0 || ov l[j].f0) = false
    rw [beq_eq_false_iff_ne.2 (hne j hj hjk), h6.1]
    rfl
  · have h6 : (c == l[k].f0) = false ∧ ov c = false := by
      have : (c == l[k].f0 || ov c) = false := h5
      exact Bool.or_eq_false_iff.1 this
    obtain ⟨x, hx, rfl⟩ := I.cov c h1 h2 h6.2
    obtain ⟨j, hj, rfl⟩ := List.mem_iff_getElem.1 hx
    refine ⟨l[j], List.mem_eraseIdx_iff_getElem.2 ⟨j, hj, fun e => ?_, rfl⟩, rfl⟩
    subst e
    simp at h6
  · show (c == l[k].f0 || ov c) = false
    rw [beq_eq_false_iff_ne.2 (by omega), (I.new c hc).2]
    rfl
theorem iv_valid {nx : Int} {l : List S36} {gv : List Int} {f : Int → Int} {tkn ov : Int → Bool} {last c : Int} (I : Iv nx l gv f tkn ov last) (h1 : 1 ≤ c) (h2 : c < nx) : validA l c = (tkn c && !ov c) := by
  unfold validA
  cases ho : ov c with
  | true =>
    rw [List.any_eq_false.2]
    · simp
    · intro x hx h3
      simp at h3
      have := (I.mem x hx).1
      rw [h3.1, ho] at this
      cases this
  | false =>
    obtain ⟨x, hx, rfl⟩ := I.cov c h1 h2 ho
    have hm := (I.mem x hx).2.2
    rw [hm]
    cases hx3 : x.f3 with
    | true => exact List.any_eq_true.2 ⟨x, hx, by simp [hx3]⟩
    | false =>
      rw [List.any_eq_false.2]
      · rfl
      · intro y hy h3
        simp at h3
        have := (I.mem y hy).2.2
        rw [h3.1, hm, hx3, h3.2] at this
        cases this
theorem iv_ans {nx : Int} {l : List S36} {gv : List Int} {f : Int → Int} {tkn ov : Int → Bool} {last c : Int} {go : Bool} {ret : Int} (I : Iv nx l gv f tkn ov last) (h : ansE l c go ret = 0) :
    validA l c = true ∧ ansT l c go ret = f c ∧ Iv nx (ansL l c) gv f tkn (fun j => j == c || ov j) last := by
  rcases idx_cases (fun x => x.f0 == c) l with ⟨h1, _⟩ | ⟨k, hk, h1, h2, _⟩
  · have h3 : ansI l c = -1 := h1
    unfold ansE at h
    rw [if_pos h3] at h
    cases h
  · have h3 : ansI l c = (k : Int) := h1
    have hc : l[k].f0 = c := by rw [rd_at hk] at h2; simpa using h2
    have h4 : l[k].f3 = true := by
      unfold ansE at h
      rw [h3, if_neg (by omega), rd_at hk] at h
      cases h5 : l[k].f3 with
      | true => rfl
      | false =>
        rw [h5] at h
        split at h
        · cases h
        · cases h
    refine ⟨List.any_eq_true.2 ⟨l[k], List.getElem_mem hk, by simp [hc, h4]⟩, ?_, ?_⟩
    · unfold ansT tidOf
      rw [if_pos h, h3, rd_at hk, ← hc]
      exact (I.mem _ (List.getElem_mem hk)).2.1.symm
    · unfold ansL
      rw [h3, Int.toNat_natCast, ← hc]
      exact iv_cut I k hk
/-- The over ones while those of a thread are gone through: L: still to come. -/
def ovL (nx : Int) (f : Int → Int) (ov : Int → Bool) (t : Int) (L : Int → Bool) : Int → Bool := fun j => ov j || (hh nx j && !L j && f j == t)
def metL (l : List S36) (t : Int) (L : Int → Bool) : Bool := l.any (fun y => y.f1 == t && !L y.f0)
theorem ov_start (nx : Int) (f : Int → Int) (ov : Int → Bool) (t : Int) : ovL nx f ov t (hh nx) = ov := by
  funext j
  unfold ovL
  cases hh nx j <;> simp
theorem met_start {nx : Int} {l : List S36} (h : Dok nx l) (t : Int) : metL l t (hh nx) = false := by
  unfold metL
  rw [List.any_eq_false]
  intro y hy
  have := ((dok_iff nx l).1 h).2.2.2.1 y hy
  have e : hh nx y.f0 = true := decide_eq_true ⟨this.1, this.2.1⟩
  rw [e]
  simp
theorem gone_put {nx : Int} {l : List S36} {gv : List Int} {f : Int → Int} {tkn ov : Int → Bool} {last t x : Int} {L : Int → Bool} (I : Iv nx l gv f tkn ov last) (hL : ∀ k, L k = true → hh nx k = true) (hx : L x = true) (hf : f x = t) (ho : ovL nx f ov t L x = false) :
    (fun j => j == x || ovL nx f ov t L j) = ovL nx f ov t (fun k => L k && !(k == x)) ∧ metL l t (fun k => L k && !(k == x)) = true := by
  constructor
  · funext j
    unfold ovL
    by_cases e : j = x
    · subst e
      simp [hL _ hx, hf]
    · have e2 : (j == x) = false := by simpa using e
      simp [e2]
  · have h1 := hL x hx
    unfold hh at h1
    have h2 := of_decide_eq_true h1
    have h3 : ov x = false := by
      unfold ovL at ho
      exact (Bool.or_eq_false_iff.1 ho).1
    obtain ⟨y, hy, rfl⟩ := I.cov x h2.1 h2.2 h3
    unfold metL
    refine List.any_eq_true.2 ⟨y, hy, ?_⟩
    have := (I.mem y hy).2.1
    simp [← this, hf]
theorem gone_pass {nx : Int} {l : List S36} {gv : List Int} {f : Int → Int} {tkn ov : Int → Bool} {last t x : Int} {L : Int → Bool} (I : Iv nx l gv f tkn ov last) (hx : L x = true) (h : ¬ (f x = t ∧ ovL nx f ov t L x = false)) :
    ovL nx f ov t (fun k => L k && !(k == x)) = ovL nx f ov t L ∧ metL l t (fun k => L k && !(k == x)) = metL l t L := by
  have h1 : f x = t → ov x = true := fun hf => by
    have h2 : ovL nx f ov t L x = true := by
      cases h3 : ovL nx f ov t L x with
      | true => rfl
      | false => exact absurd ⟨hf, h3⟩ h
    unfold ovL at h2
    simpa [hx] using h2
  constructor
  · funext j
    unfold ovL
    by_cases e : j = x
    · subst e
      by_cases hf : f j = t
      · simp [h1 hf]
      · have e3 : (f j == t) = false := by simpa using hf
        simp [e3]
    · have e2 : (j == x) = false := by simpa using e
      simp [e2]
  · unfold metL
    rw [Bool.eq_iff_iff, List.any_eq_true, List.any_eq_true]
    constructor
    · rintro ⟨y, hy, h2⟩
      refine ⟨y, hy, ?_⟩
      by_cases e : y.f0 = x
      · have h3 := I.mem y hy
        rw [e] at h3
        simp at h2
        have h4 := h1 (h3.2.1.trans h2.1)
        rw [h3.1] at h4
        cases h4
      · simpa [e] using h2
    · rintro ⟨y, hy, h2⟩
      refine ⟨y, hy, ?_⟩
      simp at h2
      simp [h2.1, h2.2]
theorem gone_end {nx : Int} {l : List S36} {gv : List Int} {f : Int → Int} {tkn ov : Int → Bool} {last t : Int} {L : Int → Bool} (I : Iv nx l gv f tkn ov last) (hL : ∀ k, 1 ≤ k → k < nx → L k = false) :
    metL l t L = goneB l t ∧ Iv nx (goneL l t) gv f tkn (ovL nx f ov t L) last := by
  have hd := (dok_iff nx l).1 I.dok
  have hp := hd.2.2.2.2
  rw [List.pairwise_map, List.pairwise_iff_getElem] at hp
  have hov : ∀ j, ovL nx f ov t L j = (ov j || (hh nx j && f j == t)) := fun j => by
    unfold ovL
    cases hj : hh nx j with
    | false => simp
    | true =>
      have := of_decide_eq_true hj
      simp [hL j this.1 this.2]
  have hmet : metL l t L = l.any (fun y => y.f1 == t) := by
    unfold metL
    rw [Bool.eq_iff_iff, List.any_eq_true, List.any_eq_true]
    constructor
    · rintro ⟨y, hy, h⟩
      simp at h
      exact ⟨y, hy, by simpa using h.1⟩
    · rintro ⟨y, hy, h⟩
      have := hd.2.2.2.1 y hy
      simp at h
      exact ⟨y, hy, by simp [h, hL y.f0 this.1 this.2.1]⟩
  rw [hmet]
  unfold goneL goneB
  rcases idx_cases (fun x => x.f1 == t) l with ⟨h1, h2⟩ | ⟨k, hk, h1, h2, _⟩
  · have h3 : ∀ y ∈ l, y.f1 ≠ t := fun y hy => by
      obtain ⟨j, hj, rfl⟩ := List.mem_iff_getElem.1 hy
      have := h2 j hj
      rw [rd_at hj] at this
      simpa using this
    rw [h1, if_pos rfl]
    refine ⟨?_, ?_⟩
    · rw [List.any_eq_false.2 (fun y hy => by simpa using h3 y hy)]
      rfl
    · rw [show ovL nx f ov t L = ov from ?_]
      · exact I
      · funext j
        rw [hov j]
        cases ho : ov j with
        | true => rfl
        | false =>
          cases hj : hh nx j with
          | false => rfl
          | true =>
            have := of_decide_eq_true hj
            obtain ⟨y, hy, rfl⟩ := I.cov j this.1 this.2 ho
            have h4 := (I.mem y hy).2.1
            rw [h4]
            have := h3 y hy
            simp [this]
  · have hkt : l[k].f1 = t := by rw [rd_at hk] at h2; simpa using h2
    have hne : ¬ ((k : Int) = -1) := by omega
    rw [h1, if_neg hne, Int.toNat_natCast, decide_eq_false hne]
    refine ⟨?_, ?_⟩
    · rw [List.any_eq_true.2 ⟨l[k], List.getElem_mem hk, by simpa using hkt⟩]
      rfl
    · rw [show ovL nx f ov t L = (fun j => j == l[k].f0 || ov j) from ?_]
      · exact iv_cut I k hk
      · funext j
        rw [hov j, Bool.or_comm]
        by_cases e : j = l[k].f0
        · subst e
          have h4 := (I.mem _ (List.getElem_mem hk)).2.1
          have h5 := hd.2.2.2.1 _ (List.getElem_mem hk)
          have h6 : hh nx l[k].f0 = true := decide_eq_true ⟨h5.1, h5.2.1⟩
          rw [h6, h4, hkt]
          simp
        · have e2 : (j == l[k].f0) = false := by simpa using e
          rw [e2, Bool.false_or]
          cases ho : ov j with
          | true => simp
          | false =>
            cases hj : hh nx j with
            | false => rfl
            | true =>
              have := of_decide_eq_true hj
              obtain ⟨y, hy, rfl⟩ := I.cov j this.1 this.2 ho
              have h4 := (I.mem y hy).2.1
              rw [h4]
              obtain ⟨q, hq, rfl⟩ := List.mem_iff_getElem.1 hy
              have h7 : q ≠ k := fun e3 => by subst e3; exact e rfl
              have h8 : l[q].f1 ≠ t := by
                rw [← hkt]
                rcases Nat.lt_or_gt_of_ne h7 with h9 | h9
                · exact (hp q k hq hk h9).2
                · exact (hp k q hk hq h9).2.symm
              simp [h8]
/-- How many of those gone by are still to be answered. -/
def cntL (l : List S36) (L : Int → Bool) : Nat := (l.filter (fun y => !L y.f0)).length
theorem cnt_start {nx : Int} {l : List S36} (h : Dok nx l) : cntL l (hh nx) = 0 := by
  unfold cntL
  rw [List.filter_eq_nil_iff.2 (fun y hy => ?_)]
  · rfl
  · have := ((dok_iff nx l).1 h).2.2.2.1 y hy
    have e : hh nx y.f0 = true := decide_eq_true ⟨this.1, this.2.1⟩
    simp [e]
theorem cnt_le (l : List S36) (L : Int → Bool) : cntL l L ≤ l.length := List.length_filter_le _ _
theorem cnt_pass {nx : Int} {l : List S36} {gv : List Int} {f : Int → Int} {tkn ov : Int → Bool} {last x : Int} {L : Int → Bool} (I : Iv nx l gv f tkn ov last) (h : ov x = true) : cntL l (fun k => L k && !(k == x)) = cntL l L := by
  unfold cntL
  congr 1
  refine List.filter_congr (fun y hy => ?_)
  have h1 := (I.mem y hy).1
  have e : y.f0 ≠ x := fun e => by rw [e, h] at h1; cases h1
  simp [e]
theorem cnt_one {l : List S36} {x : Int} {L : Int → Bool} (hp : (l.map fun x => (x.f0, x.f1)).Pairwise (fun a b => a.1 < b.1 ∧ a.2 ≠ b.2)) (hx : L x = true) (hm : ∃ y ∈ l, y.f0 = x) : cntL l (fun k => L k && !(k == x)) = cntL l L + 1 := by
  induction l with
  | nil => obtain ⟨y, hy, _⟩ := hm; cases hy
  | cons a l ih =>
    rw [List.map_cons, List.pairwise_cons] at hp
    unfold cntL at ih ⊢
    by_cases e : a.f0 = x
    · have h0 : ∀ y ∈ l, y.f0 ≠ x := fun y hy e2 => by
        have := (hp.1 (y.f0, y.f1) (List.mem_map.2 ⟨y, hy, rfl⟩)).1
        simp at this
        omega
      rw [List.filter_cons_of_pos (by simp [e]), List.filter_cons_of_neg (by simp [e, hx])]
      rw [List.filter_congr (q := fun y => !L y.f0) (fun y hy => by simp [h0 y hy])]
      rfl
    · have hm2 : ∃ y ∈ l, y.f0 = x := by
        obtain ⟨y, hy, h1⟩ := hm
        rcases List.mem_cons.1 hy with rfl | hy
        · exact absurd h1 e
        · exact ⟨y, hy, h1⟩
      have h2 := ih hp.2 hm2
      cases hL : L a.f0 with
      | true =>
        rw [List.filter_cons_of_neg (by simp [e, hL]), List.filter_cons_of_neg (by simp [hL])]
        exact h2
      | false =>
        rw [List.filter_cons_of_pos (by simp [hL]), List.filter_cons_of_pos (by simp [hL]), List.length_cons, List.length_cons, h2]
theorem cnt_step {nx : Int} {l : List S36} {gv : List Int} {f : Int → Int} {tkn ov : Int → Bool} {last x : Int} {L : Int → Bool} (I : Iv nx l gv f tkn ov last) (hL : ∀ k, L k = true → hh nx k = true) (hx : L x = true) (h : ov x = false) : cntL l (fun k => L k && !(k == x)) = cntL l L + 1 := by
  have h1 := of_decide_eq_true (hL x hx)
  exact cnt_one ((dok_iff nx l).1 I.dok).2.2.2.2 hx (I.cov x h1.1 h1.2 h)
theorem cnt_end {nx : Int} {l : List S36} {L : Int → Bool} (h : Dok nx l) (hL : ∀ k, 1 ≤ k → k < nx → L k = false) : cntL l L = l.length := by
  unfold cntL
  rw [List.filter_eq_self.2 (fun y hy => ?_)]
  have := ((dok_iff nx l).1 h).2.2.2.1 y hy
  simp [hL y.f0 this.1 this.2.1]
end Go.Proofs.YtcbiehinhmkjmaaDoor.NB
