import Derived.Test.YtpejeeemefmafaaDI
namespace Go.Proofs.Ytpejeeemefmafaa.RD
open Go.RowKit Go.Proofs.YtpejeeemefmafaaW.PrintWords Go.Proofs.YtpejeeemefmafaaW.PrintLast Go.Proofs.YtpejeeemefmafaaW.PrintMore
open Go.Proofs.Ytpejeeemefmafaa.PE.L (below_drewN' below_drew')
open PH
set_option linter.unusedVariables false
set_option linter.unusedSimpArgs false
theorem wl_put (l : List Int) (i : Nat) (x : Int) (hl : l.length = 64) (hi : i < 16) (hx : u32R x) : (wl l 16).set i (.int .u32 x) = wl (put4 l (4 * i) x) 16 := by
  apply List.ext_getElem?
  intro j
  by_cases hj : j < 16
  · rw [List.getElem?_set, wl_len, wl_at l 16 j hj, wl_at _ 16 j hj, if_pos hj, if_pos hj]
    by_cases e : i = j
    · subst e; rw [if_pos rfl, if_pos hj, put4_same l _ x (by omega) hx]
    · rw [if_neg e, put4_at l _ x (by omega) hx (4 * j) (by omega) (by omega)]
  · rw [List.getElem?_eq_none (by simp [wl_len]; omega), List.getElem?_eq_none (by simp [wl_len]; omega)]
theorem wl_lit (l : List Int) : (wl l 16).toArray = #[.int .u32 (w4 l 0), .int .u32 (w4 l 4), .int .u32 (w4 l 8), .int .u32 (w4 l 12), .int .u32 (w4 l 16), .int .u32 (w4 l 20), .int .u32 (w4 l 24), .int .u32 (w4 l 28), .int .u32 (w4 l 32), .int .u32 (w4 l 36), .int .u32 (w4 l 40), .int .u32 (w4 l 44), .int .u32 (w4 l 48), .int .u32 (w4 l 52), .int .u32 (w4 l 56), .int .u32 (w4 l 60)] := rfl
/-- The bytes of the first k words. -/
def wb (l : List Int) : Nat → List Int
  | 0 => []
  | k + 1 => wb l k ++ bs 4 (w4 l (4 * k))
theorem wb_take {l : List Int} (hl : Bytes l) (hn : l.length = 64) : ∀ k, k ≤ 16 → wb l k = l.take (4 * k)
  | 0, _ => by simp [wb]
  | k + 1, h => by rw [wb, wb_take hl hn k (by omega), bs_w4 hl (4 * k) (by omega), take_more l (4 * k) 4 (by omega)]; rfl
theorem eq66 (l m : List Int) (W : World) : (Op.equalIn 10000 66 (.agg #[.int .u32 (w4 l 0), .int .u32 (w4 l 4), .int .u32 (w4 l 8), .int .u32 (w4 l 12), .int .u32 (w4 l 16), .int .u32 (w4 l 20), .int .u32 (w4 l 24), .int .u32 (w4 l 28), .int .u32 (w4 l 32), .int .u32 (w4 l 36), .int .u32 (w4 l 40), .int .u32 (w4 l 44), .int .u32 (w4 l 48), .int .u32 (w4 l 52), .int .u32 (w4 l 56), .int .u32 (w4 l 60)]) (.agg #[.int .u32 (w4 m 0), .int .u32 (w4 m 4), .int .u32 (w4 m 8), .int .u32 (w4 m 12), .int .u32 (w4 m 16), .int .u32 (w4 m 20), .int .u32 (w4 m 24), .int .u32 (w4 m 28), .int .u32 (w4 m 32), .int .u32 (w4 m 36), .int .u32 (w4 m 40), .int .u32 (w4 m 44), .int .u32 (w4 m 48), .int .u32 (w4 m 52), .int .u32 (w4 m 56), .int .u32 (w4 m 60)])).run Try.prog W = .ok ((List.range 16).all fun i => w4 l (4 * i) == w4 m (4 * i)) W := by
  obtain ⟨i, hi, _⟩ := info_parts (show (Try.prog.info? 33).map (fun i => (i.zero, i.size, i.bytes)) = some (some (.int .u32 0), 1, 4) by kernel_rfl)
  rw [run_equalIn_array W 9999 _ _ Try.underlying66 hi, run_items 9998 33 .u32 Try.underlying33 (by kernel_rfl) W _ _ (fun i => w4 l (4 * i)) (fun i => w4 m (4 * i))]
  intro j hj
  have hj' : j < 16 := by simpa using hj
  have h1 : (wl l 16).toArray[j]? = some (.int .u32 (w4 l (4 * j))) := by simp only [List.getElem?_toArray]; rw [wl_at _ _ _ hj', if_pos hj']
  have h2 : (wl m 16).toArray[j]? = some (.int .u32 (w4 m (4 * j))) := by simp only [List.getElem?_toArray]; rw [wl_at _ _ _ hj', if_pos hj']
  exact ⟨h1, h2⟩
theorem all_put (l : List Int) (hl : Bytes l) (hn : l.length = 64) (i : Nat) (hi : i < 16) (x : Int) (hx : u32R x) : ((List.range 16).all fun j => w4 (put4 l (4 * i) x) (4 * j) == w4 l (4 * j)) = true ↔ x = w4 l (4 * i) := by
  rw [List.all_eq_true]
  constructor
  · intro h
    have := h i (by simpa using hi)
    rw [put4_same l _ x (by omega) hx] at this
    simpa using this
  · intro h j hj
    have hj' : j < 16 := by simpa using hj
    by_cases e : i = j
    · subst e; rw [put4_same l _ x (by omega) hx]; simpa using h
    · rw [put4_at l _ x (by omega) hx (4 * j) (by omega) (by omega)]; simp
end Go.Proofs.Ytpejeeemefmafaa.RD
