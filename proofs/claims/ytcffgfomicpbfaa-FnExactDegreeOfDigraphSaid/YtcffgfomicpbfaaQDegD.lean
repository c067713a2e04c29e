/- The one degree of a digraph, as both find it. -/
import Derived.Test.YtcffgfomicpbfaaP14
import Derived.Test.YtcffgfomicpbfaaP17
import Derived.Test.YtcffgfomicpbfaaP8
import Derived.Test.YtcffgfomicpbfaaQRevFn
import Derived.Test.YtcffgfomicpbfaaQDegFn
namespace Go.Proofs.Ytcffgfomicpbfaa.Q
open Go Go.RowKit Go.Proofs.Ytcffgfomicpbfaa.P Go.Proofs.YtcffgfomicpbfaaW.PrintWords Go.Proofs.YtcffgfomicpbfaaW.PrintMore
/-- All degrees, out and in, are that of the first vertex. -/
def regD (n : Int) (l r : List Int) : Prop := ∀ v, 0 ≤ v → v < n → deg l v = deg l 0 ∧ deg r v = deg l 0
theorem deg_s {n : Int} {l : List Int} (h : rows n l) {v : Int} (v0 : 0 ≤ v) (v1 : v < n) : Ev (fun k => spec_l01Bits.f k (rd l v)) (deg l v) := by
  obtain ⟨x, e, _, hx⟩ := h.nat v0 v1
  unfold deg
  rw [e, Int.toNat_natCast]
  exact s_bits x hx
theorem deg_i {n : Int} {l : List Int} (h : rows n l) {v : Int} (v0 : 0 ≤ v) (v1 : v < n) : impl_size.f (rd l v) = some (deg l v) := by
  obtain ⟨x, e, _, hx⟩ := h.nat v0 v1
  unfold deg
  rw [e, Int.toNat_natCast]
  exact i_size x hx
theorem degreesD {n : Int} {l : List Int} (h : rows n l) : ∃ g, g ≤ 64 ∧ Ev (fun k => spec_l08Degree.f k n l) g ∧ Ev (fun k => impl_Digraph_degree.f k n l) g := by
  have n1 := h.1
  have n2 := h.2.1
  have hl := h.2.2.1
  obtain ⟨r, hr, hs⟩ := s_reverse h
  obtain ⟨r', hr', hi⟩ := i_reversed h
  obtain rfl := hr.eq hr' (by omega)
  have hrr := hr.rows n1 n2
  have hrl := hr.1
  have d0 := deg_range l 0
  have sl : ∀ (d : Nat) (v : Int), 0 ≤ v → v ≤ n → n - v = d → (∀ w, 0 ≤ w → w < v → deg l w = deg l 0 ∧ deg r w = deg l 0) → ∃ g, ((regD n l r ∧ g = deg l 0) ∨ (¬ regD n l r ∧ g = -1)) ∧ Ev (fun k => spec_l08Degree.l0 k (deg l 0) v n l n r) g := by
    intro d
    induction d with
    | zero =>
      intro v v0 v1 hd hb
      refine ⟨deg l 0, .inl ⟨fun w w0 w1 => hb w w0 (by omega), rfl⟩, ev_k ?_⟩
      simp only [spec_l08Degree.l0]
      exact ev_neg (by omega) (Ev.now _)
    | succ d ih =>
      intro v v0 v1 hd hb
      by_cases z1 : deg l v = deg l 0
      · by_cases z2 : deg r v = deg l 0
        · obtain ⟨g, hg, hE⟩ := ih (v + 1) (by omega) (by omega) (by omega) (fun w w0 w1 => by
            by_cases y : w = v
            · rw [y]; exact ⟨z1, z2⟩
            · exact hb w w0 (by omega))
          refine ⟨g, hg, ev_k ?_⟩
          simp only [spec_l08Degree.l0]
          rw [w64 (a := v + 1) (by omega) (by omega)]
          exact ev_pos (by omega) (ev_pos v0 (Ev.bind (deg_s h v0 (by omega)) (ev_pos z1 (ev_pos (by omega) (Ev.bind (deg_s hrr v0 (by omega)) (ev_pos z2 hE))))))
        · refine ⟨-1, .inr ⟨fun y => z2 (y v v0 (by omega)).2, rfl⟩, ev_k ?_⟩
          simp only [spec_l08Degree.l0]
          exact ev_pos (by omega) (ev_pos v0 (Ev.bind (deg_s h v0 (by omega)) (ev_pos z1 (ev_pos (by omega) (Ev.bind (deg_s hrr v0 (by omega)) (ev_neg z2 (Ev.now _)))))))
      · refine ⟨-1, .inr ⟨fun y => z1 (y v v0 (by omega)).1, rfl⟩, ev_k ?_⟩
        simp only [spec_l08Degree.l0]
        exact ev_pos (by omega) (ev_pos v0 (Ev.bind (deg_s h v0 (by omega)) (ev_neg z1 (Ev.now _))))
  have hlen : ((l ++ r).length : Int) = 2 * n := by rw [List.length_append]; omega
  have at1 : ∀ v, 0 ≤ v → v < n → rd (l ++ r) v = rd l v := fun v v0 v1 => by
    have : v.toNat < l.length := by omega
    simp only [rd, List.getD_eq_getElem?_getD, List.getElem?_append_left this]
  have at2 : ∀ v, 0 ≤ v → v < n → rd (l ++ r) (n + v) = rd r v := fun v v0 v1 => by
    simp only [rd, List.getD_eq_getElem?_getD]
    rw [List.getElem?_append_right (by omega), show (n + v).toNat - l.length = v.toNat by omega]
  have il : ∀ (d : Nat) (i : Int), 0 ≤ i → i ≤ 2 * n → 2 * n - i = d → (∀ w, 0 ≤ w → w < n → (w < i → deg l w = deg l 0) ∧ (n + w < i → deg r w = deg l 0)) → ∃ g, ((regD n l r ∧ g = deg l 0) ∨ (¬ regD n l r ∧ g = -1)) ∧ Ev (fun k => impl_Digraph_degree.l0 k (deg l 0) (l ++ r) ((l ++ r).length : Int) i) g := by
    intro d
    induction d with
    | zero =>
      intro i i0 i1 hd hb
      refine ⟨deg l 0, .inl ⟨fun w w0 w1 => ⟨(hb w w0 w1).1 (by omega), (hb w w0 w1).2 (by omega)⟩, rfl⟩, ev_k ?_⟩
      simp only [impl_Digraph_degree.l0]
      exact ev_neg (by omega) (Ev.now _)
    | succ d ih =>
      intro i i0 i1 hd hb
      have hsz : ∃ g, impl_size.f (rd (l ++ r) i) = some g ∧ ((i < n ∧ g = deg l i) ∨ (n ≤ i ∧ g = deg r (i - n))) := by
        by_cases y : i < n
        · exact ⟨_, by rw [at1 i i0 y]; exact deg_i h i0 y, .inl ⟨y, rfl⟩⟩
        · refine ⟨_, ?_, .inr ⟨by omega, rfl⟩⟩
          have := at2 (i - n) (by omega) (by omega)
          rw [show n + (i - n) = i by omega] at this
          rw [this]
          exact deg_i hrr (by omega) (by omega)
      obtain ⟨g0, hg0, hcase⟩ := hsz
      by_cases z : g0 = deg l 0
      · obtain ⟨g, hg, hE⟩ := ih (i + 1) (by omega) (by omega) (by omega) (fun w w0 w1 => by
          have hb' := hb w w0 w1
          constructor
          · intro q
            by_cases y : w = i
            · rcases hcase with ⟨c1, c2⟩ | ⟨c1, _⟩
              · rw [y, ← c2, z]
              · omega
            · exact hb'.1 (by omega)
          · intro q
            by_cases y : n + w = i
            · rcases hcase with ⟨c1, _⟩ | ⟨c1, c2⟩
              · omega
              · rw [show w = i - n by omega, ← c2, z]
            · exact hb'.2 (by omega))
        refine ⟨g, hg, ev_k ?_⟩
        simp only [impl_Digraph_degree.l0]
        rw [hg0, w64 (a := i + 1) (by omega) (by omega)]
        exact ev_pos (by omega) (ev_pos i0 (ev_pos (by omega) (ev_pos z hE)))
      · refine ⟨-1, .inr ⟨fun y => z ?_, rfl⟩, ev_k ?_⟩
        · rcases hcase with ⟨c1, c2⟩ | ⟨c1, c2⟩
          · rw [c2]; exact (y i i0 c1).1
          · rw [c2]; exact (y (i - n) (by omega) (by omega)).2
        · simp only [impl_Digraph_degree.l0]
          rw [hg0]
          exact ev_pos (by omega) (ev_pos i0 (ev_pos (by omega) (ev_neg z (Ev.now _))))
  obtain ⟨g, hg, hE⟩ := sl n.toNat 0 (by omega) (by omega) (by omega) (fun w w0 w1 => by omega)
  obtain ⟨g', hg', hE'⟩ := il (2 * n).toNat 0 (by omega) (by omega) (by omega) (fun w w0 w1 => ⟨fun _ => by omega, fun _ => by omega⟩)
  obtain rfl : g = g' := by
    rcases hg with ⟨a, b⟩ | ⟨a, b⟩ <;> rcases hg' with ⟨c, d⟩ | ⟨c, d⟩
    · rw [b, d]
    · exact absurd a c
    · exact absurd c a
    · rw [b, d]
  refine ⟨g, by rcases hg with ⟨_, b⟩ | ⟨_, b⟩ <;> omega, ?_, ?_⟩
  · unfold spec_l08Degree.f
    exact Ev.bind hs (ev_pos (by omega) (Ev.bind (deg_s h (by omega) (by omega)) hE))
  · unfold impl_Digraph_degree.f
    have hc : slices_Concat_int64_int64.f [l, r] = some (l ++ r) := by
      unfold slices_Concat_int64_int64.f
      rw [show [l, r].flatten = l ++ r by simp, if_pos (by omega), if_pos (by omega), if_pos (by simp)]
    exact ev_pos (by omega) (ev_bind0 (deg_i h (by omega) (by omega)) (Ev.bind hi (ev_bind0 hc hE')))
end Go.Proofs.Ytcffgfomicpbfaa.Q
