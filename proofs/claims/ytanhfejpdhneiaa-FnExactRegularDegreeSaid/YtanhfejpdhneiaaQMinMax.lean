/- The least and the greatest of a list, as Go's slices.Min and slices.Max find them. -/
import Derived.Test.YtanhfejpdhneiaaP44
import Derived.Test.YtanhfejpdhneiaaP45
import Derived.Test.YtanhfejpdhneiaaQBuild
namespace Go.Proofs.Ytanhfejpdhneiaa.Q
open Go Go.RowKit Go.Proofs.Ytanhfejpdhneiaa.P Go.Proofs.YtanhfejpdhneiaaW.PrintWords Go.Proofs.YtanhfejpdhneiaaW.PrintMore
theorem min_l0 (l : List Int) (hl : l.length ≤ 1152921504606846976) (d : Nat) : ∀ (m i : Int), 0 ≤ i → i ≤ l.length → l.length - i = d → ∃ r, Ev (fun k => slices_Min_int64_int64.l0 k l m i) r ∧ r ≤ m ∧ (∀ j : Int, i ≤ j → j < l.length → r ≤ rd l j) ∧ (r = m ∨ ∃ j : Int, i ≤ j ∧ j < l.length ∧ r = rd l j) := by
  induction d with
  | zero =>
    intro m i i0 i1 hd
    refine ⟨m, ev_k ?_, by omega, fun j _ _ => by omega, .inl rfl⟩
    simp only [slices_Min_int64_int64.l0]
    exact ev_neg (by omega) (Ev.now _)
  | succ d ih =>
    intro m i i0 i1 hd
    obtain ⟨r, hr, r1, r2, r3⟩ := ih (mn m (rd l i)) (i + 1) (by omega) (by omega) (by omega)
    have e : mn m (rd l i) ≤ m ∧ mn m (rd l i) ≤ rd l i ∧ (mn m (rd l i) = m ∨ mn m (rd l i) = rd l i) := by
      unfold mn
      split <;> omega
    refine ⟨r, ev_k ?_, by omega, fun j j0 j1 => if h : j = i then by rw [h]; omega else r2 j (by omega) j1, ?_⟩
    · simp only [slices_Min_int64_int64.l0]
      rw [w64 (a := i + 1) (by omega) (by omega)]
      exact ev_pos (by omega) (ev_pos i0 hr)
    · rcases r3 with h | ⟨j, j0, j1, h⟩
      · rcases e.2.2 with e | e
        · exact .inl (h.trans e)
        · exact .inr ⟨i, by omega, by omega, h.trans e⟩
      · exact .inr ⟨j, by omega, j1, h⟩
theorem max_l0 (l : List Int) (hl : l.length ≤ 1152921504606846976) (d : Nat) : ∀ (m i : Int), 0 ≤ i → i ≤ l.length → l.length - i = d → ∃ r, Ev (fun k => slices_Max_int64_int64.l0 k l m i) r ∧ m ≤ r ∧ (∀ j : Int, i ≤ j → j < l.length → rd l j ≤ r) ∧ (r = m ∨ ∃ j : Int, i ≤ j ∧ j < l.length ∧ r = rd l j) := by
  induction d with
  | zero =>
    intro m i i0 i1 hd
    refine ⟨m, ev_k ?_, by omega, fun j _ _ => by omega, .inl rfl⟩
    simp only [slices_Max_int64_int64.l0]
    exact ev_neg (by omega) (Ev.now _)
  | succ d ih =>
    intro m i i0 i1 hd
    obtain ⟨r, hr, r1, r2, r3⟩ := ih (mx m (rd l i)) (i + 1) (by omega) (by omega) (by omega)
    have e : m ≤ mx m (rd l i) ∧ rd l i ≤ mx m (rd l i) ∧ (mx m (rd l i) = m ∨ mx m (rd l i) = rd l i) := by
      unfold mx
      split <;> omega
    refine ⟨r, ev_k ?_, by omega, fun j j0 j1 => if h : j = i then by rw [h]; omega else r2 j (by omega) j1, ?_⟩
    · simp only [slices_Max_int64_int64.l0]
      rw [w64 (a := i + 1) (by omega) (by omega)]
      exact ev_pos (by omega) (ev_pos i0 hr)
    · rcases r3 with h | ⟨j, j0, j1, h⟩
      · rcases e.2.2 with e | e
        · exact .inl (h.trans e)
        · exact .inr ⟨i, by omega, by omega, h.trans e⟩
      · exact .inr ⟨j, by omega, j1, h⟩
theorem mins (l : List Int) (hl : l.length ≤ 1152921504606846976) (h0 : 0 < l.length) : ∃ r, Ev (fun k => slices_Min_int64_int64.f k l) r ∧ (∀ j : Int, 0 ≤ j → j < l.length → r ≤ rd l j) ∧ ∃ j : Int, 0 ≤ j ∧ j < l.length ∧ r = rd l j := by
  obtain ⟨r, hr, r1, r2, r3⟩ := min_l0 l hl (l.length - 1) (rd l 0) 1 (by omega) (by omega) (by omega)
  refine ⟨r, ?_, fun j j0 j1 => if h : j = 0 then by rw [h]; exact r1 else r2 j (by omega) j1, ?_⟩
  · unfold slices_Min_int64_int64.f
    exact ev_neg (by omega) (ev_pos (by omega) hr)
  · rcases r3 with h | ⟨j, j0, j1, h⟩
    · exact ⟨0, by omega, by omega, h⟩
    · exact ⟨j, by omega, j1, h⟩
theorem maxs (l : List Int) (hl : l.length ≤ 1152921504606846976) (h0 : 0 < l.length) : ∃ r, Ev (fun k => slices_Max_int64_int64.f k l) r ∧ (∀ j : Int, 0 ≤ j → j < l.length → rd l j ≤ r) ∧ ∃ j : Int, 0 ≤ j ∧ j < l.length ∧ r = rd l j := by
  obtain ⟨r, hr, r1, r2, r3⟩ := max_l0 l hl (l.length - 1) (rd l 0) 1 (by omega) (by omega) (by omega)
  refine ⟨r, ?_, fun j j0 j1 => if h : j = 0 then by rw [h]; exact r1 else r2 j (by omega) j1, ?_⟩
  · unfold slices_Max_int64_int64.f
    exact ev_neg (by omega) (ev_pos (by omega) hr)
  · rcases r3 with h | ⟨j, j0, j1, h⟩
    · exact ⟨0, by omega, by omega, h⟩
    · exact ⟨j, by omega, j1, h⟩
end Go.Proofs.Ytanhfejpdhneiaa.Q
