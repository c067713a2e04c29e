/- The one degree of a graph, as both find it. -/
import Derived.Test.YtanhfejpdhneiaaP40
import Derived.Test.YtanhfejpdhneiaaP46
import Derived.Test.YtanhfejpdhneiaaQMinMax
import Derived.Test.YtanhfejpdhneiaaQDegFn
namespace Go.Proofs.Ytanhfejpdhneiaa.Q
open Go Go.RowKit Go.Proofs.Ytanhfejpdhneiaa.P Go.Proofs.YtanhfejpdhneiaaW.PrintWords Go.Proofs.YtanhfejpdhneiaaW.PrintMore
/-- All degrees are that of the first vertex. -/
def reg (n : Int) (l : List Int) : Prop := ∀ v, 0 ≤ v → v < n → deg l v = deg l 0
theorem s_regular {n : Int} {l : List Int} (h : rows n l) : ∃ r, Ev (fun k => spec_l01Regular.f k n l) r ∧ (reg n l → r = deg l 0) ∧ (¬ reg n l → r = -1) := by
  have n1 := h.1
  have n2 := h.2.1
  have loop : ∀ (d : Nat) (v : Int), 1 ≤ v → v ≤ n → n - v = d → (∀ w, 0 ≤ w → w < v → deg l w = deg l 0) → ∃ r, Ev (fun k => spec_l01Regular.l0 k v n l) r ∧ (reg n l → r = deg l 0) ∧ (¬ reg n l → r = -1) := by
    intro d
    induction d with
    | zero =>
      intro v v0 v1 hd hb
      refine ⟨deg l 0, ev_k ?_, fun _ => rfl, fun z => absurd (fun w w0 w1 => hb w w0 (by omega)) z⟩
      simp only [spec_l01Regular.l0]
      exact ev_neg (by omega) (Ev.bind (s_degree h (by omega) (by omega)) (Ev.now _))
    | succ d ih =>
      intro v v0 v1 hd hb
      by_cases hv : deg l v = deg l 0
      · obtain ⟨r, hr, h1, h2⟩ := ih (v + 1) (by omega) (by omega) (by omega) fun w w0 w1 => if e : w = v then by rw [e]; exact hv else hb w w0 (by omega)
        refine ⟨r, ev_k ?_, h1, h2⟩
        simp only [spec_l01Regular.l0]
        rw [w64 (a := v + 1) (by omega) (by omega)]
        exact ev_pos (by omega) (Ev.bind (s_degree h (by omega) (by omega)) (Ev.bind (s_degree h (by omega) (by omega)) (ev_pos hv hr)))
      · refine ⟨-1, ev_k ?_, fun z => absurd (z v (by omega) (by omega)) hv, fun _ => rfl⟩
        simp only [spec_l01Regular.l0]
        exact ev_pos (by omega) (Ev.bind (s_degree h (by omega) (by omega)) (Ev.bind (s_degree h (by omega) (by omega)) (ev_neg hv (Ev.now _))))
  unfold spec_l01Regular.f
  exact loop (n.toNat - 1) 1 (by omega) (by omega) (by omega) fun w w0 w1 => by rw [show w = 0 by omega]
theorem i_regular {n : Int} {l : List Int} (h : rows n l) : ∃ r, Ev (fun k => impl_Graph_regular.f k n l) r ∧ (reg n l → r = deg l 0) ∧ (¬ reg n l → r = -1) := by
  have n1 := h.1
  have n2 := h.2.1
  have hl := degs_length l n.toNat
  obtain ⟨a, ha, a1, j, j0, j1, ja⟩ := mins (degs l n.toNat) (by omega) (by omega)
  obtain ⟨b, hb, b1, i, i0, i1, ib⟩ := maxs (degs l n.toNat) (by omega) (by omega)
  have at' : ∀ v, 0 ≤ v → v < n → rd (degs l n.toNat) v = deg l v := fun v v0 v1 => degs_at l _ v v0 (by omega)
  have e : a = b ↔ reg n l := by
    constructor
    · intro e v v0 v1
      have p := a1 v v0 (by omega)
      have q := b1 v v0 (by omega)
      have p' := a1 0 (by omega) (by omega)
      have q' := b1 0 (by omega) (by omega)
      rw [at' v v0 v1] at p q
      rw [at' 0 (by omega) (by omega)] at p' q'
      omega
    · intro z
      rw [ja, ib, at' j j0 (by omega), at' i i0 (by omega), z j j0 (by omega), z i i0 (by omega)]
  by_cases hc : a = b
  · refine ⟨deg l 0, ?_, fun _ => rfl, fun z => absurd (e.1 hc) z⟩
    unfold impl_Graph_regular.f
    refine Ev.bind (i_degrees h) (Ev.bind ha (Ev.bind hb (ev_pos hc (ev_pos (by omega) ?_))))
    rw [at' 0 (by omega) (by omega)]
    exact Ev.now _
  · refine ⟨-1, ?_, fun z => absurd (e.2 z) hc, fun _ => rfl⟩
    unfold impl_Graph_regular.f
    exact Ev.bind (i_degrees h) (Ev.bind ha (Ev.bind hb (ev_neg hc (Ev.now _))))
/-- Both find the same. -/
theorem regulars {n : Int} {l : List Int} (h : rows n l) : ∃ r, Ev (fun k => spec_l01Regular.f k n l) r ∧ Ev (fun k => impl_Graph_regular.f k n l) r ∧ (reg n l → r = deg l 0) ∧ (¬ reg n l → r = -1) := by
  obtain ⟨r, hr, r1, r2⟩ := s_regular h
  obtain ⟨s, hs, s1, s2⟩ := i_regular h
  have : s = r := by
    by_cases z : reg n l
    · rw [r1 z, s1 z]
    · rw [r2 z, s2 z]
  exact ⟨r, hr, this ▸ hs, r1, r2⟩
end Go.Proofs.Ytanhfejpdhneiaa.Q
