/- Digraphs: what both take for one. -/
import Derived.Test.YtcffgfomicpbfaaP12
import Derived.Test.YtcffgfomicpbfaaP4
import Derived.Test.YtcffgfomicpbfaaP6
import Derived.Test.YtcffgfomicpbfaaQGraph
import Derived.Test.YtcffgfomicpbfaaQInFn
namespace Go.Proofs.Ytcffgfomicpbfaa.Q
open Go Go.RowKit Go.Proofs.Ytcffgfomicpbfaa.P Go.Proofs.YtcffgfomicpbfaaW.PrintWords Go.Proofs.YtcffgfomicpbfaaW.PrintMore
theorem rows_all {n : Int} {l : List Int} (hn : (l.length : Int) = n) (P : Int → Prop) : (∀ x ∈ l, P x) ↔ ∀ v, 0 ≤ v → v < n → P (rd l v) := by
  constructor
  · intro h v v0 v1
    have hv : v.toNat < l.length := by omega
    have : rd l v = l[v.toNat] := by simp [rd, List.getD_eq_getElem?_getD, List.getElem?_eq_getElem hv]
    rw [this]
    exact h _ (List.getElem_mem _)
  · intro h x hx
    obtain ⟨i, hi, rfl⟩ := List.getElem_of_mem hx
    have := h i (by omega) (by omega)
    have e : rd l (i : Int) = l[i] := by simp [rd, List.getD_eq_getElem?_getD, List.getElem?_eq_getElem hi]
    rwa [e] at this
theorem s_di (n : Int) (l : List Int) : Says (fun k => spec_l08Is.f k n l) (rows n l) := by
  have bad : ¬ rows n l → Says (fun k => spec_l08Is.j0 k true n l) (rows n l) := fun h => by
    refine says_k ?_
    simp only [spec_l08Is.j0]
    exact says_pos trivial (says_false h)
  unfold spec_l08Is.f
  rw [s_in]
  simp only [Option.bind_some]
  by_cases h1 : 1 ≤ n ∧ n ≤ 62
  · refine says_pos (decide_eq_true h1) ?_
    by_cases h2 : (l.length : Int) = n
    · refine says_k ?_
      simp only [spec_l08Is.j0]
      refine says_neg (by simp [h2]) ?_
      have hp := two_pow_le (n := n) (by omega) h1.2
      have loop : ∀ (d : Nat) (v : Int), 0 ≤ v → v ≤ n → n - v = d → Says (fun k => spec_l08Is.l0 k v n l) (∀ a, v ≤ a → a < n → 0 ≤ rd l a ∧ rd l a < 2 ^ n.toNat) := by
        intro d
        induction d with
        | zero =>
          intro v v0 v1 hd
          refine says_k ?_
          simp only [spec_l08Is.l0]
          exact says_neg (by omega) (says_true fun a _ _ => by omega)
        | succ d ih =>
          intro v v0 v1 hd
          refine says_k ?_
          simp only [spec_l08Is.l0]
          rw [wu64 (a := n) (by omega) (by omega), shl_one (by omega) h1.2, w64 (a := 2 ^ n.toNat - 1) (by omega) (by omega), s_in]
          simp only [Option.bind_some]
          refine says_pos (by omega) (says_pos v0 (says_pos (by omega) ?_))
          by_cases h : 0 ≤ rd l v ∧ rd l v ≤ 2 ^ n.toNat - 1
          · refine says_pos (decide_eq_true h) ?_
            rw [w64 (a := v + 1) (by omega) (by omega)]
            exact says_iff ⟨fun z a a0 a1 => z a (by omega) a1, fun z a a0 a1 => if ha : a = v then by subst ha; omega else z a (by omega) a1⟩ (ih (v + 1) (by omega) (by omega) (by omega))
          · exact says_neg (by simpa using h) (says_false fun z => h (by have := z v (by omega) (by omega); omega))
      exact says_iff ⟨fun z => z.2.2.2, fun z => ⟨h1.1, h1.2, h2, z⟩⟩ (loop n.toNat 0 (by omega) (by omega) (by omega))
    · rw [show ((l.length : Int) != n) = true by simpa using h2]
      exact bad fun z => h2 z.2.2.1
  · exact says_neg (by simpa using h1) (bad fun z => h1 ⟨z.1, z.2.1⟩)
theorem i_di (n : Int) (l : List Int) : ∃ b, impl_IsDigraph.f n l = some b ∧ (b = true ↔ rows n l) := by
  unfold impl_IsDigraph.f
  by_cases h1 : n < 1
  · exact ⟨false, if_pos h1, by simp; intro z; have := z.1; omega⟩
  · rw [if_neg h1]
    by_cases h2 : n > 62
    · exact ⟨false, if_pos h2, by simp; intro z; have := z.2.1; omega⟩
    · rw [if_neg h2]
      by_cases h3 : (l.length : Int) = n
      · rw [if_pos h3]
        have hp := two_pow_le (n := n) (by omega) (by omega)
        refine ⟨_, rfl, ?_⟩
        rw [w64 (a := 2 ^ n.toNat) (by omega) (by omega)]
        have : (!(l.any fun row => decide (row < 0) || decide (2 ^ n.toNat ≤ row))) = true ↔ ∀ x ∈ l, 0 ≤ x ∧ x < 2 ^ n.toNat := by
          simp only [Bool.not_eq_true', List.any_eq_false, Bool.or_eq_true, decide_eq_true_eq, not_or, Int.not_lt, Int.not_le]
        rw [this, rows_all h3]
        exact ⟨fun z => ⟨by omega, by omega, h3, z⟩, fun z => z.2.2.2⟩
      · exact ⟨false, if_neg h3, by simp; intro z; exact h3 z.2.2.1⟩
theorem i_di_yes {n : Int} {l : List Int} (h : rows n l) : impl_IsDigraph.f n l = some true := by
  obtain ⟨b, hb, e⟩ := i_di n l
  rw [hb, e.2 h]
theorem i_di_no {n : Int} {l : List Int} (h : ¬ rows n l) : impl_IsDigraph.f n l = some false := by
  obtain ⟨b, hb, e⟩ := i_di n l
  cases b with
  | true => exact absurd (e.1 rfl) h
  | false => exact hb
theorem d_has (n : Int) (l : List Int) (v w : Int) (v0 : 0 ≤ v) (v1 : v < l.length) (w0 : 0 ≤ w) (w1 : w ≤ 63) : spec_l08Has.f n l v w = some (tb (rd l v) w) := by
  unfold spec_l08Has.f
  rw [if_pos v0, if_pos v1, wu64 w0 (by omega), if_pos w0, bit_is w0 w1]
end Go.Proofs.Ytcffgfomicpbfaa.Q
