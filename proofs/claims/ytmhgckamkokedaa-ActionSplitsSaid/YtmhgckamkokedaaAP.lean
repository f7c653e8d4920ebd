import Derived.Test.YtmhgckamkokedaaPBx
import Derived.Laws.BitsLemmas
namespace Go.Proofs.Ytmhgckamkokedaa.PB
open Go.RowKit Go.Proofs.YtmhgckamkokedaaW.PrintWords Go.Proofs.YtmhgckamkokedaaW.PrintLast Go.Proofs.YtmhgckamkokedaaW.PrintMore
open Go.Proofs.Ytmhgckamkokedaa.PE.L (act stV stV_snoc stV_len stp combV)
set_option linter.unusedVariables false
set_option linter.unusedSimpArgs false

theorem w64_id {n : Int} (h0 : -9223372036854775808 ≤ n) (h1 : n < 9223372036854775808) : wrap64 n = n := by unfold wrap64; omega
theorem u16_w (n : Int) : IntKind.u16.wrap n = n % 65536 := by simp [IntKind.wrap, IntKind.bits, IntKind.signed]
def kn (a : Int) : Bool := (a / 65536 == 32768) || (a / 65536 == 0) || (a / 65536 == 3) || (a / 65536 == 5) || (a / 65536 == 32704) || (a / 65536 == 32752) || (a / 65536 == 32764) || (a / 65536 == 32767)
theorem eight (h : Int) (P : Prop) (h0 : h = 32768 → P) (h1 : h = 0 → P) (h2 : h = 3 → P) (h3 : h = 5 → P) (h4 : h = 32704 → P) (h5 : h = 32752 → P) (h6 : h = 32764 → P) (h7 : h = 32767 → P)
    (hn : h ≠ 32768 → h ≠ 0 → h ≠ 3 → h ≠ 5 → h ≠ 32704 → h ≠ 32752 → h ≠ 32764 → h ≠ 32767 → P) : P := by
  by_cases c0 : h = 32768
  · exact h0 c0
  by_cases c1 : h = 0
  · exact h1 c1
  by_cases c2 : h = 3
  · exact h2 c2
  by_cases c3 : h = 5
  · exact h3 c3
  by_cases c4 : h = 32704
  · exact h4 c4
  by_cases c5 : h = 32752
  · exact h5 c5
  by_cases c6 : h = 32764
  · exact h6 c6
  by_cases c7 : h = 32767
  · exact h7 c7
  exact hn c0 c1 c2 c3 c4 c5 c6 c7
theorem split20 (a : Int) : action_Split.f 20 a = some (act a, IntKind.u16.wrap a) := by
  unfold action_Split.f action_halves.f slices_Index_uint32_uint32.f act
  simp only [Option.bind_some]
  generalize a / 65536 = h
  refine eight h _ ?_ ?_ ?_ ?_ ?_ ?_ ?_ ?_ ?_
  · intro e; subst e; simp [slices_Index_uint32_uint32.l0, rd, wrap64, mx]
  · intro e; subst e; simp [slices_Index_uint32_uint32.l0, rd, wrap64, mx]
  · intro e; subst e; simp [slices_Index_uint32_uint32.l0, rd, wrap64, mx]
  · intro e; subst e; simp [slices_Index_uint32_uint32.l0, rd, wrap64, mx]
  · intro e; subst e; simp [slices_Index_uint32_uint32.l0, rd, wrap64, mx]
  · intro e; subst e; simp [slices_Index_uint32_uint32.l0, rd, wrap64, mx]
  · intro e; subst e; simp [slices_Index_uint32_uint32.l0, rd, wrap64, mx]
  · intro e; subst e; simp [slices_Index_uint32_uint32.l0, rd, wrap64, mx]
  · intro c0 c1 c2 c3 c4 c5 c6 c7; simp [slices_Index_uint32_uint32.l0, rd, wrap64, mx, c0, c1, c2, c3, c4, c5, c6, c7]
theorem known20 (a : Int) : action_Known.f 20 a = some (kn a) := by
  unfold action_Known.f action_halves.f slices_Contains_uint32_uint32.f slices_Index_uint32_uint32.f kn
  simp only [Option.bind_some]
  generalize a / 65536 = h
  refine eight h _ ?_ ?_ ?_ ?_ ?_ ?_ ?_ ?_ ?_
  · intro e; subst e; simp [slices_Index_uint32_uint32.l0, rd, wrap64, mx]
  · intro e; subst e; simp [slices_Index_uint32_uint32.l0, rd, wrap64, mx]
  · intro e; subst e; simp [slices_Index_uint32_uint32.l0, rd, wrap64, mx]
  · intro e; subst e; simp [slices_Index_uint32_uint32.l0, rd, wrap64, mx]
  · intro e; subst e; simp [slices_Index_uint32_uint32.l0, rd, wrap64, mx]
  · intro e; subst e; simp [slices_Index_uint32_uint32.l0, rd, wrap64, mx]
  · intro e; subst e; simp [slices_Index_uint32_uint32.l0, rd, wrap64, mx]
  · intro e; subst e; simp [slices_Index_uint32_uint32.l0, rd, wrap64, mx]
  · intro c0 c1 c2 c3 c4 c5 c6 c7; simp [slices_Index_uint32_uint32.l0, rd, wrap64, mx, c0, c1, c2, c3, c4, c5, c6, c7]
theorem rsplit20 (a : Int) : wicketgateref06_Split.f 20 a = some (act a, IntKind.u16.wrap a) := by
  unfold wicketgateref06_Split.f act
  refine eight (a / 65536) _ ?_ ?_ ?_ ?_ ?_ ?_ ?_ ?_ ?_
  · intro e; simp [wicketgateref06_Split.l0, wicketgateref06_Half.f, wrap64, e]
  · intro e; simp [wicketgateref06_Split.l0, wicketgateref06_Half.f, wrap64, e]
  · intro e; simp [wicketgateref06_Split.l0, wicketgateref06_Half.f, wrap64, e]
  · intro e; simp [wicketgateref06_Split.l0, wicketgateref06_Half.f, wrap64, e]
  · intro e; simp [wicketgateref06_Split.l0, wicketgateref06_Half.f, wrap64, e]
  · intro e; simp [wicketgateref06_Split.l0, wicketgateref06_Half.f, wrap64, e]
  · intro e; simp [wicketgateref06_Split.l0, wicketgateref06_Half.f, wrap64, e]
  · intro e; simp [wicketgateref06_Split.l0, wicketgateref06_Half.f, wrap64, e]
  · intro c0 c1 c2 c3 c4 c5 c6 c7; simp [wicketgateref06_Split.l0, wicketgateref06_Half.f, wrap64, c0, c1, c2, c3, c4, c5, c6, c7]
theorem rknown20 (a : Int) : wicketgateref06_Known.f 20 a = some (kn a) := by
  unfold wicketgateref06_Known.f kn
  refine eight (a / 65536) _ ?_ ?_ ?_ ?_ ?_ ?_ ?_ ?_ ?_
  · intro e; simp [wicketgateref06_Known.l0, wicketgateref06_Half.f, wrap64, e]
  · intro e; simp [wicketgateref06_Known.l0, wicketgateref06_Half.f, wrap64, e]
  · intro e; simp [wicketgateref06_Known.l0, wicketgateref06_Half.f, wrap64, e]
  · intro e; simp [wicketgateref06_Known.l0, wicketgateref06_Half.f, wrap64, e]
  · intro e; simp [wicketgateref06_Known.l0, wicketgateref06_Half.f, wrap64, e]
  · intro e; simp [wicketgateref06_Known.l0, wicketgateref06_Half.f, wrap64, e]
  · intro e; simp [wicketgateref06_Known.l0, wicketgateref06_Half.f, wrap64, e]
  · intro e; simp [wicketgateref06_Known.l0, wicketgateref06_Half.f, wrap64, e]
  · intro c0 c1 c2 c3 c4 c5 c6 c7; simp [wicketgateref06_Known.l0, wicketgateref06_Half.f, wrap64, c0, c1, c2, c3, c4, c5, c6, c7]

theorem split_f {k : Nat} (hk : 20 ≤ k) (a : Int) : action_Split.f k a = some (act a, IntKind.u16.wrap a) := at_rounds (g := fun k => action_Split.f k a) (fun k => action_Split.mono a k) hk (split20 a)
theorem known_f {k : Nat} (hk : 20 ≤ k) (a : Int) : action_Known.f k a = some (kn a) := at_rounds (g := fun k => action_Known.f k a) (fun k => action_Known.mono a k) hk (known20 a)
theorem rsplit_f {k : Nat} (hk : 20 ≤ k) (a : Int) : wicketgateref06_Split.f k a = some (act a, IntKind.u16.wrap a) := at_rounds (g := fun k => wicketgateref06_Split.f k a) (fun k => wicketgateref06_Split.mono a k) hk (rsplit20 a)
theorem rknown_f {k : Nat} (hk : 20 ≤ k) (a : Int) : wicketgateref06_Known.f k a = some (kn a) := at_rounds (g := fun k => wicketgateref06_Known.f k a) (fun k => wicketgateref06_Known.mono a k) hk (rknown20 a)
theorem wakes_f {k : Nat} (hk : 1000 ≤ k) : wicketgatelaw06_wakes.f k = some true := at_rounds (g := fun k => wicketgatelaw06_wakes.f k) wicketgatelaw06_wakes.mono hk wicketgatelaw06_wakes.tt
/-- An action's half. -/
def hlf (n : Int) : Int := if n = 0 then 32768 else if n = 1 then 0 else if n = 2 then 3 else if n = 3 then 5 else if n = 4 then 32704 else if n = 5 then 32752 else if n = 6 then 32764 else 32767
theorem or_join (h d : Int) (h0 : 0 ≤ h) (h1 : h < 65536) (d0 : 0 ≤ d) (d1 : d < 65536) : Go.bits .or .u32 ((h * 65536) % 4294967296) (d % 4294967296) = h * 65536 + d := by
  rw [Int.emod_eq_of_lt (by omega) (by omega), Int.emod_eq_of_lt (by omega) (by omega)]
  exact bits_join .u32 32 (by decide) (fun n a b => by rw [IntKind.wrap_u32]; exact Int.emod_eq_of_lt a (by simpa using b)) 16 (h * 65536) d (by omega) (by omega) (by omega) d0 (by omega) (by omega)
theorem and_mask (x : Int) (h0 : 0 ≤ x) (h1 : x < 4294967296) : Go.bits .and .u32 x 65535 = x % 65536 := by
  exact bits_mask .u32 32 (by decide) (fun n a b => by rw [IntKind.wrap_u32]; exact Int.emod_eq_of_lt a (by simpa using b)) 16 (by decide) x h0 (by omega)
theorem act_rng (a : Int) : 0 ≤ act a ∧ act a ≤ 7 := by unfold act; repeat' split <;> omega
theorem join_f (n d : Int) (d0 : 0 ≤ d) (d1 : d ≤ 65535) : action_Join.f n d = if 0 ≤ n ∧ n ≤ 7 then some (hlf n * 65536 + d, 0) else some (0, 160) := by
  unfold action_Join.f action_halves.f action_at_uint32.f
  simp only [Option.bind_some]
  by_cases h : 0 ≤ n ∧ n ≤ 7
  · rw [if_pos h]
    obtain rfl | rfl | rfl | rfl | rfl | rfl | rfl | rfl : n = 0 ∨ n = 1 ∨ n = 2 ∨ n = 3 ∨ n = 4 ∨ n = 5 ∨ n = 6 ∨ n = 7 := by omega
    all_goals simp [rd, hlf]
    all_goals first | (have := or_join 32768 d (by omega) (by omega) d0 (by omega); simpa using this; done) | skip
    all_goals first | (have := or_join 0 d (by omega) (by omega) d0 (by omega); simpa using this; done) | skip
    all_goals first | (have := or_join 3 d (by omega) (by omega) d0 (by omega); simpa using this; done) | skip
    all_goals first | (have := or_join 5 d (by omega) (by omega) d0 (by omega); simpa using this; done) | skip
    all_goals first | (have := or_join 32704 d (by omega) (by omega) d0 (by omega); simpa using this; done) | skip
    all_goals first | (have := or_join 32752 d (by omega) (by omega) d0 (by omega); simpa using this; done) | skip
    all_goals first | (have := or_join 32764 d (by omega) (by omega) d0 (by omega); simpa using this; done) | skip
    all_goals (have := or_join 32767 d (by omega) (by omega) d0 (by omega); simpa using this)
  · rw [if_neg h]
    by_cases h1 : n < 0
    · rw [if_pos h1]; simp
    · rw [if_neg h1, if_pos (by simp; omega)]; simp
theorem hlf_rng (n : Int) : 0 ≤ hlf n ∧ hlf n < 65536 := by unfold hlf; repeat' split <;> omega
theorem act_hlf (n d : Int) (h : 0 ≤ n ∧ n ≤ 7) (d0 : 0 ≤ d) (d1 : d ≤ 65535) : act (hlf n * 65536 + d) = n ∧ kn (hlf n * 65536 + d) = true ∧ (hlf n * 65536 + d) % 65536 = d := by
  have e : (hlf n * 65536 + d) / 65536 = hlf n := by omega
  refine ⟨?_, ?_, by omega⟩
  · unfold act; rw [e]
    obtain rfl | rfl | rfl | rfl | rfl | rfl | rfl | rfl : n = 0 ∨ n = 1 ∨ n = 2 ∨ n = 3 ∨ n = 4 ∨ n = 5 ∨ n = 6 ∨ n = 7 := by omega
    all_goals simp [hlf]
  · unfold kn; rw [e]
    obtain rfl | rfl | rfl | rfl | rfl | rfl | rfl | rfl : n = 0 ∨ n = 1 ∨ n = 2 ∨ n = 3 ∨ n = 4 ∨ n = 5 ∨ n = 6 ∨ n = 7 := by omega
    all_goals simp [hlf]
theorem kn_hlf (a : Int) (a0 : 0 ≤ a) : kn a = decide (hlf (act a) = a / 65536) := by
  unfold kn act
  have hp : 0 ≤ a / 65536 := by omega
  revert hp
  generalize a / 65536 = h
  intro hp
  refine eight h _ ?_ ?_ ?_ ?_ ?_ ?_ ?_ ?_ ?_
  · intro e; subst e; simp [hlf]
  · intro e; subst e; simp [hlf]
  · intro e; subst e; simp [hlf]
  · intro e; subst e; simp [hlf]
  · intro e; subst e; simp [hlf]
  · intro e; subst e; simp [hlf]
  · intro e; subst e; simp [hlf]
  · intro e; subst e; simp [hlf]
  · intro c0 c1 c2 c3 c4 c5 c6 c7; have e0 : (h == 32768) = false := beq_eq_false_iff_ne.mpr c0; have e1 : (h == 0) = false := beq_eq_false_iff_ne.mpr c1; have e2 : (h == 3) = false := beq_eq_false_iff_ne.mpr c2; have e3 : (h == 5) = false := beq_eq_false_iff_ne.mpr c3; have e4 : (h == 32704) = false := beq_eq_false_iff_ne.mpr c4; have e5 : (h == 32752) = false := beq_eq_false_iff_ne.mpr c5; have e6 : (h == 32764) = false := beq_eq_false_iff_ne.mpr c6; have e7 : (h == 32767) = false := beq_eq_false_iff_ne.mpr c7; rw [e0, e1, e2, e3, e4, e5, e6, e7, if_neg c0, if_neg c1, if_neg c2, if_neg c3, if_neg c4, if_neg c5, if_neg c6, if_neg c7]; simp [hlf]; omega
theorem back_j (k : Nat) (hk : 30 ≤ k) (n d : Int) (d0 : 0 ≤ d) (d1 : d ≤ 65535) : wicketgatelaw06_ActionBack.j0 k false n d = some true := by
  obtain ⟨k, rfl⟩ : ∃ m, k = m + 1 := ⟨k - 1, by omega⟩
  simp only [wicketgatelaw06_ActionBack.j0]
  rw [join_f n d d0 d1]
  by_cases h : 0 ≤ n ∧ n ≤ 7
  · rw [if_pos h]
    simp only [Option.bind_some]
    rw [split_f (by omega), known_f (by omega)]
    obtain ⟨e1, e2, e3⟩ := act_hlf n d h d0 d1
    simp [e1, e2, e3, u16_w]
  · rw [if_neg h]; simp
theorem ActionBack_p (a n d : Int) (a0 : 0 ≤ a) (a1 : a ≤ 4294967295) (d0 : 0 ≤ d) (d1 : d ≤ 65535) : wicketgatelaw06_ActionBack.f 1000 a n d = some true := by
  unfold wicketgatelaw06_ActionBack.f
  rw [wakes_f (by omega)]
  simp only [Option.bind_some, if_true]
  rw [split_f (by omega)]
  simp only [Option.bind_some]
  have hw : IntKind.u16.wrap a = a % 65536 := u16_w a
  rw [hw, join_f _ _ (by omega) (by omega), if_pos (act_rng a)]
  simp only [Option.bind_some, if_true]
  rw [known_f (by omega)]
  simp only [Option.bind_some]
  have hr := hlf_rng (act a)
  have h1 : (kn a != (hlf (act a) * 65536 + a % 65536 == a)) = false := by
    rw [kn_hlf a a0]
    by_cases e : hlf (act a) = a / 65536
    · have : hlf (act a) * 65536 + a % 65536 = a := by omega
      rw [this]; simp [e]
    · have : ¬ (hlf (act a) * 65536 + a % 65536 = a) := by omega
      simp [this, e]
  rw [h1]
  simp only [Bool.false_eq_true, if_false]
  rw [and_mask _ (by omega) (by omega), and_mask a a0 (by omega)]
  have h2 : ((hlf (act a) * 65536 + a % 65536) % 65536 != a % 65536) = false := by
    have : (hlf (act a) * 65536 + a % 65536) % 65536 = a % 65536 := by omega
    simp [this]
  rw [h2]
  exact back_j 1000 (by omega) n d d0 d1
theorem few_f (l : List Int) : wicketgatelaw06_few.f l = some (l.take 40) := by
  unfold wicketgatelaw06_few.f
  have hm : mn (l.length : Int) 40 = if (l.length : Int) ≤ 40 then (l.length : Int) else 40 := by unfold mn; split <;> split <;> omega
  have ht : l.take (mn (l.length : Int) 40).toNat = l.take 40 := by
    rw [hm]; split
    · rename_i h; rw [List.take_of_length_le (by omega), List.take_of_length_le (by omega)]
    · rfl
  simp only [Option.bind_some, List.length_nil, List.nil_append]
  rw [ht, if_pos (by rw [hm]; split <;> omega), if_pos (by rw [hm]; split <;> omega), if_pos (by simp; omega)]
theorem rd_at {l : List Int} {i : Nat} (hi : i < l.length) : rd l (i : Int) = l[i] := by unfold rd; simp [hi]
def DatV (l : List S27) : Prop := ∀ x ∈ l, 0 ≤ x.f1 ∧ x.f1 ≤ 65535
theorem splits_l1 (l : List S27) (hd : DatV l) : ∀ (d i k : Nat), i + d = 20 → d * 2 + 40 < k → wicketgatelaw06_ActionSplits.l1 k l (l.length : Int) i = some true := by
  intro d
  induction d with
  | zero =>
    intro i k hi hk
    obtain ⟨k, rfl⟩ : ∃ m, k = m + 1 := ⟨k - 1, by omega⟩
    simp only [wicketgatelaw06_ActionSplits.l1]
    by_cases hc : (i : Int) < (l.length : Int)
    · rw [if_pos hc, if_pos (by omega), if_pos hc, if_pos (by omega)]
    · rw [if_neg hc]
  | succ d ih =>
    intro i k hi hk
    obtain ⟨k, rfl⟩ : ∃ m, k = m + 1 + 1 := ⟨k - 2, by omega⟩
    simp only [wicketgatelaw06_ActionSplits.l1]
    by_cases hc : (i : Int) < (l.length : Int)
    · rw [if_pos hc, if_pos (by omega), if_pos hc, if_neg (by omega)]
      have hi' : i < l.length := by omega
      have hm : rd_T27 l (i : Int) = l[i] := by unfold rd_T27; simp [hi']
      obtain ⟨d0, d1⟩ := hd _ (List.getElem_mem hi')
      rw [hm, join_f _ _ d0 d1]
      have hw2 : wrap64 ((i : Int) + 1) = ((i + 1 : Nat) : Int) := by rw [w64_id (by omega) (by omega)]; omega
      by_cases h : 0 ≤ l[i].f0 ∧ l[i].f0 ≤ 7
      · rw [if_pos h]
        simp only [Option.bind_some]
        rw [if_neg (by omega), decide_eq_false (by omega)]
        simp only [wicketgatelaw06_ActionSplits.j2, Bool.false_eq_true, if_false, if_true]
        have hh : wicketgateref06_Half.f l[i].f0 = some (hlf l[i].f0) := by
          unfold wicketgateref06_Half.f hlf
          obtain e | e | e | e | e | e | e | e : l[i].f0 = 0 ∨ l[i].f0 = 1 ∨ l[i].f0 = 2 ∨ l[i].f0 = 3 ∨ l[i].f0 = 4 ∨ l[i].f0 = 5 ∨ l[i].f0 = 6 ∨ l[i].f0 = 7 := by omega
          all_goals simp [e]
        have hr := hlf_rng l[i].f0
        rw [hh]
        simp only [Option.bind_some]
        rw [if_pos (by omega), hw2]
        exact ih (i + 1) k (by omega) (by omega)
      · rw [if_neg h]
        simp only [Option.bind_some]
        have e : (if l[i].f0 < 0 then wicketgatelaw06_ActionSplits.j2 (k + 1) 0 160 l (l.length : Int) (i : Int) true l[i].f0 l[i].f1 else wicketgatelaw06_ActionSplits.j2 (k + 1) 0 160 l (l.length : Int) (i : Int) (decide (l[i].f0 > 7)) l[i].f0 l[i].f1) = wicketgatelaw06_ActionSplits.j2 (k + 1) 0 160 l (l.length : Int) (i : Int) true l[i].f0 l[i].f1 := by
          split
          · rfl
          · rw [decide_eq_true (by omega)]
        rw [e]
        simp only [wicketgatelaw06_ActionSplits.j2, if_true]
        rw [hw2]
        exact ih (i + 1) k (by omega) (by omega)
    · rw [if_neg hc]
theorem splits_l0 (l1 : List S27) (hd : DatV l1) (l : List Int) (hl : l.length ≤ 40) : ∀ (d i k : Nat), i + d = l.length → d + 200 < k → wicketgatelaw06_ActionSplits.l0 k l1 l (l.length : Int) i = some true := by
  intro d
  induction d with
  | zero =>
    intro i k hi hk
    obtain ⟨k, rfl⟩ : ∃ m, k = m + 1 := ⟨k - 1, by omega⟩
    simp only [wicketgatelaw06_ActionSplits.l0]
    rw [if_neg (by omega)]
    exact splits_l1 l1 hd 20 0 k (by omega) (by omega)
  | succ d ih =>
    intro i k hi hk
    obtain ⟨k, rfl⟩ : ∃ m, k = m + 1 := ⟨k - 1, by omega⟩
    simp only [wicketgatelaw06_ActionSplits.l0]
    have hw2 : wrap64 ((i : Int) + 1) = ((i + 1 : Nat) : Int) := by rw [w64_id (by omega) (by omega)]; omega
    rw [if_pos (by omega), if_pos (by omega), if_pos (by omega), split_f (by omega), rsplit_f (by omega), known_f (by omega), rknown_f (by omega), hw2]
    simp only [Option.bind_some]
    rw [ih (i + 1) k (by omega) (by omega)]
    simp
theorem ActionSplits_p (l : List Int) (l1 : List S27) (hd : DatV l1) : wicketgatelaw06_ActionSplits.f 1000 l l1 = some true := by
  unfold wicketgatelaw06_ActionSplits.f
  rw [wakes_f (by omega), few_f l]
  simp only [Option.bind_some, if_true]
  exact splits_l0 l1 hd (l.take 40) (by simp; omega) (l.take 40).length 0 1000 (by omega) (by simp; omega)
end Go.Proofs.Ytmhgckamkokedaa.PB
