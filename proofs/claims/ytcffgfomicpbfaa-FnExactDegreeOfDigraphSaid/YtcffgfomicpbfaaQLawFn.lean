/- What the laws' own small functions come to: copies, comparisons, marks. -/
import Derived.Test.YtcffgfomicpbfaaP1
import Derived.Test.YtcffgfomicpbfaaP10
import Derived.Test.YtcffgfomicpbfaaP2
import Derived.Test.YtcffgfomicpbfaaQCore
namespace Go.Proofs.Ytcffgfomicpbfaa.Q
open Go Go.RowKit Go.Proofs.Ytcffgfomicpbfaa.P Go.Proofs.YtcffgfomicpbfaaW.PrintWords Go.Proofs.YtcffgfomicpbfaaW.PrintMore

theorem rd_at (l : List Int) (i : Int) (h1 : i.toNat < l.length) : rd l i = l[i.toNat] := by
  simp [rd, List.getD_eq_getElem?_getD, List.getElem?_eq_getElem h1]
theorem toS_l0 (l : List Int) (hl : l.length < 9223372036854775807) (d : Nat) : ∀ (m : List Int) (i : Int), 0 ≤ i → i ≤ l.length → l.length - i = d → m.length = l.length → (∀ j, j < i.toNat → m[j]? = l[j]?) →
    Ev (fun k => laws_toInt64S.l0 k l m i) l := by
  induction d with
  | zero =>
    intro m i h0 h1 hd hm hj
    refine ev_k ?_
    simp only [laws_toInt64S.l0]
    refine ev_neg (by omega) (ev_some (List.ext_getElem? fun j => ?_))
    by_cases h : j < i.toNat
    · exact hj j h
    · rw [List.getElem?_eq_none (by omega), List.getElem?_eq_none (by omega)]
  | succ d ih =>
    intro m i h0 h1 hd hm hj
    refine ev_k ?_
    simp only [laws_toInt64S.l0]
    refine ev_pos (by omega) (ev_pos h0 (ev_pos (by omega) ?_))
    rw [w64 (a := i + 1) (by omega) (by omega)]
    refine ih _ (i + 1) (by omega) (by omega) (by omega) (by simpa using hm) fun j h => ?_
    rw [List.getElem?_set]
    split
    · subst_vars
      rw [if_pos (by omega), rd_at l i (by omega), List.getElem?_eq_getElem]
    · exact hj j (by omega)
theorem toS (l : List Int) (hl : l.length ≤ 35184372088832) : Ev (fun k => laws_toInt64S.f k l) l := by
  unfold laws_toInt64S.f
  refine ev_pos (by omega) (ev_pos (by omega) ?_)
  exact toS_l0 l (by omega) l.length _ 0 (by omega) (by omega) (by omega) (by simp) (fun j h => by simp at h)

theorem eqS_l0 (l m : List Int) (e : l.length = m.length) (hl : l.length < 9223372036854775807) (d : Nat) : ∀ (i : Int), 0 ≤ i → i ≤ l.length → l.length - i = d →
    Ev (fun k => laws_eqInt64S.l0 k l m i) (decide (l.drop i.toNat = m.drop i.toNat)) := by
  have dc : ∀ (l : List Int) (i : Int), 0 ≤ i → i < l.length → l.drop i.toNat = rd l i :: l.drop (i + 1).toNat := fun l i h0 h1 => by
    rw [List.drop_eq_getElem_cons (by omega : i.toNat < l.length), show (i + 1).toNat = i.toNat + 1 by omega, rd_at l i (by omega)]
  induction d with
  | zero =>
    intro i h0 h1 hd
    refine ev_k ?_
    simp only [laws_eqInt64S.l0]
    refine ev_neg (by omega) (ev_some ?_)
    rw [List.drop_of_length_le (by omega), List.drop_of_length_le (by omega)]
    rfl
  | succ d ih =>
    intro i h0 h1 hd
    refine ev_k ?_
    simp only [laws_eqInt64S.l0]
    refine ev_pos (by omega) (ev_pos h0 (ev_pos (by omega) ?_))
    rw [w64 (a := i + 1) (by omega) (by omega), dc l i h0 (by omega), dc m i h0 (by omega)]
    by_cases h : rd l i = rd m i
    · refine ev_pos h ?_
      simp only [List.cons.injEq, h, true_and]
      exact ih (i + 1) (by omega) (by omega) (by omega)
    · refine ev_neg h (ev_some ?_)
      simp [h]
theorem eqS (l m : List Int) (hl : l.length < 9223372036854775807) : Ev (fun k => laws_eqInt64S.f k l m) (decide (l = m)) := by
  unfold laws_eqInt64S.f
  by_cases e : l.length = m.length
  · refine ev_pos (by omega) ?_
    simpa using eqS_l0 l m e hl l.length 0 (by omega) (by omega) (by omega)
  · refine ev_neg (by omega) (ev_some ?_)
    exact (decide_eq_false fun h => e (by rw [h])).symm
theorem eqS_self (l : List Int) (hl : l.length < 9223372036854775807) : Ev (fun k => laws_eqInt64S.f k l l) true := by
  simpa using eqS l l hl

theorem szS (l : List Int) (hl : l.length ≤ maxLen) : laws_szInt64S.f l 1048576 = some (if l.length ≤ 1048576 then 1048576 - (l.length : Int) else -1) := by
  unfold maxLen at hl
  unfold laws_szInt64S.f
  rw [w64 (by omega) (by omega)]
  by_cases h : l.length ≤ 1048576
  · rw [if_neg (by omega), if_pos h]
  · rw [if_pos (by omega), if_neg h]

/-- The numbers from a on. -/
def marks (a : Int) (n : Nat) : List Int := (List.range n).map fun (j : Nat) => a + (j : Int)
theorem marks_length (a : Int) (n : Nat) : (marks a n).length = n := by simp [marks]
theorem marks_at (a : Int) (n j : Nat) (h : j < n) : (marks a n)[j]? = some (a + j) := by
  simp [marks, h]
end Go.Proofs.Ytcffgfomicpbfaa.Q
