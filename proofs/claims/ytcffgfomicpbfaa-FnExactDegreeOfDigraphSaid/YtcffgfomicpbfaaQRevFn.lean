/- Digraphs built by a test, and reversed. -/
import Derived.Test.YtcffgfomicpbfaaP15
import Derived.Test.YtcffgfomicpbfaaP16
import Derived.Test.YtcffgfomicpbfaaP6
import Derived.Test.YtcffgfomicpbfaaP7
import Derived.Test.YtcffgfomicpbfaaQBuild
import Derived.Test.YtcffgfomicpbfaaQDiFn
namespace Go.Proofs.Ytcffgfomicpbfaa.Q
open Go Go.RowKit Go.Proofs.Ytcffgfomicpbfaa.P Go.Proofs.YtcffgfomicpbfaaW.PrintWords Go.Proofs.YtcffgfomicpbfaaW.PrintMore
theorem i_directed (n : Int) (n0 : 0 ≤ n) (n2 : n ≤ 62) (is_ : Int → Int → Option Bool) (Q : Int → Int → Prop) (hq : ∀ v w, 0 ≤ v → v < n → 0 ≤ w → w < n → ∃ b, is_ v w = some b ∧ (b = true ↔ Q v w)) : ∃ r, Mx n r Q ∧ Ev (fun k => impl_directed.f is_ k n) (n, r) := by
  have outer : ∀ (d : Nat) (v : Int) (l : List Int), 0 ≤ v → v ≤ n → n - v = d → Mx n l (fun a b => a < v ∧ Q a b) → ∃ r, Mx n r Q ∧ Ev (fun k => impl_directed.l0 is_ k n n v n l) (n, r) := by
    intro d
    induction d with
    | zero =>
      intro v l v0 v1 hd hm
      refine ⟨l, hm.imp fun a b a0 a1 _ _ => ⟨fun z => z.2, fun z => ⟨by omega, z⟩⟩, ev_k ?_⟩
      simp only [impl_directed.l0]
      exact ev_neg (by omega) (Ev.now _)
    | succ d ih =>
      intro v l v0 v1 hd hm
      have inner : ∀ (e : Nat) (w : Int) (l : List Int), 0 ≤ w → w ≤ n → n - w = e → Mx n l (fun a b => (a < v ∨ (a = v ∧ b < w)) ∧ Q a b) → ∃ r, Mx n r Q ∧ Ev (fun k => impl_directed.l1 is_ k n v n v n w n l) (n, r) := by
        intro e
        induction e with
        | zero =>
          intro w l w0 w1 he hm
          obtain ⟨r, hr, hx⟩ := ih (v + 1) l (by omega) (by omega) (by omega) (hm.imp fun a b a0 a1 b0 b1 => and_congr ⟨fun _ => by omega, fun _ => by omega⟩ Iff.rfl)
          refine ⟨r, hr, ev_k ?_⟩
          simp only [impl_directed.l1]
          refine ev_neg (by omega) ?_
          rwa [w64 (a := v + 1) (by omega) (by omega)]
        | succ e ihe =>
          intro w l w0 w1 he hm
          obtain ⟨b, hb, hbq⟩ := hq v w v0 (by omega) w0 (by omega)
          cases b with
          | true =>
            obtain ⟨r, hr, hx⟩ := ihe (w + 1) _ (by omega) (by omega) (by omega) ((hm.or n2 v0 (by omega) w0 (by omega : w < n)).imp (Q := fun a b => (a < v ∨ (a = v ∧ b < w + 1)) ∧ Q a b) fun a b a0 a1 b0 b1 => by
              constructor
              · rintro (⟨h, q⟩ | ⟨rfl, rfl⟩)
                · exact ⟨by omega, q⟩
                · exact ⟨by omega, hbq.1 rfl⟩
              · rintro ⟨h, q⟩
                by_cases z : a = v ∧ b = w
                · exact .inr z
                · exact .inl ⟨by omega, q⟩)
            refine ⟨r, hr, ev_k ?_⟩
            simp only [impl_directed.l1, hb, Option.bind_some]
            refine ev_pos (by omega) (ev_pos trivial (ev_pos v0 (ev_pos (by have := hm.1; omega) (ev_pos w0 ?_))))
            rwa [w64 (a := w + 1) (by omega) (by omega)]
          | false =>
            have nq : ¬ Q v w := fun z => by have := hbq.2 z; cases this
            obtain ⟨r, hr, hx⟩ := ihe (w + 1) l (by omega) (by omega) (by omega) (hm.imp fun a b a0 a1 b0 b1 => by
              constructor
              · rintro ⟨h, q⟩
                exact ⟨by omega, q⟩
              · rintro ⟨h, q⟩
                by_cases z : a = v ∧ b = w
                · obtain ⟨rfl, rfl⟩ := z
                  exact absurd q nq
                · exact ⟨by omega, q⟩)
            refine ⟨r, hr, ev_k ?_⟩
            simp only [impl_directed.l1, hb, Option.bind_some]
            refine ev_pos (by omega) (ev_neg (by simp) ?_)
            rwa [w64 (a := w + 1) (by omega) (by omega)]
      obtain ⟨r, hr, hx⟩ := inner n.toNat 0 l (by omega) (by omega) (by omega) (hm.imp fun a b a0 a1 b0 b1 => and_congr (by omega) Iff.rfl)
      refine ⟨r, hr, ev_k ?_⟩
      simp only [impl_directed.l0]
      exact ev_pos (by omega) hx
  obtain ⟨r, hr, hx⟩ := outer n.toNat 0 _ (by omega) (by omega) (by omega) ((Mx.zero n n0).imp fun a b a0 a1 b0 b1 => ⟨False.elim, fun z => by omega⟩)
  refine ⟨r, hr, ?_⟩
  unfold impl_directed.f
  exact ev_pos n0 (ev_pos (by omega) hx)
theorem i_reversed {n : Int} {l : List Int} (h : rows n l) : ∃ r, Mx n r (fun v w => tb (rd l w) v = true) ∧ Ev (fun k => impl_Digraph_reversed.f k n l) (n, r) := by
  obtain ⟨r, hr, hx⟩ := i_directed n (by have := h.1; omega) h.2.1 (impl_Digraph_reversed.is l) (fun v w => tb (rd l w) v = true) fun v w v0 v1 w0 w1 => by
    refine ⟨_, ?_, Iff.rfl⟩
    unfold impl_Digraph_reversed.is
    rw [if_pos w0, if_pos (by have := h.2.2.1; omega), if_pos v0, bit_is v0 (by have := h.2.1; omega)]
  refine ⟨r, hr, ?_⟩
  unfold impl_Digraph_reversed.f
  exact Ev.bind hx (Ev.now _)
theorem s_reverse {n : Int} {l : List Int} (h : rows n l) : ∃ r, Mx n r (fun v w => tb (rd l w) v = true) ∧ Ev (fun k => spec_l08Reverse.f k n l) (n, r) := by
  have n1 := h.1
  have n2 := h.2.1
  have hl := h.2.2.1
  have outer : ∀ (d : Nat) (v : Int) (m : List Int), 0 ≤ v → v ≤ n → n - v = d → Mx n m (fun b a => a < v ∧ tb (rd l a) b = true) → ∃ r, Mx n r (fun b a => tb (rd l a) b = true) ∧ Ev (fun k => spec_l08Reverse.l0 k v n l n m) (n, r) := by
    intro d
    induction d with
    | zero =>
      intro v m v0 v1 hd hm
      refine ⟨m, hm.imp fun b a b0 b1 a0 a1 => ⟨fun z => z.2, fun z => ⟨by omega, z⟩⟩, ev_k ?_⟩
      simp only [spec_l08Reverse.l0]
      exact ev_neg (by omega) (Ev.now _)
    | succ d ih =>
      intro v m v0 v1 hd hm
      have inner : ∀ (e : Nat) (w : Int) (m : List Int), 0 ≤ w → w ≤ n → n - w = e → Mx n m (fun b a => (a < v ∨ (a = v ∧ b < w)) ∧ tb (rd l a) b = true) → ∃ r, Mx n r (fun b a => tb (rd l a) b = true) ∧ Ev (fun k => spec_l08Reverse.l1 k v w n l n m) (n, r) := by
        intro e
        induction e with
        | zero =>
          intro w m w0 w1 he hm
          obtain ⟨r, hr, hx⟩ := ih (v + 1) m (by omega) (by omega) (by omega) (hm.imp fun b a b0 b1 a0 a1 => and_congr ⟨fun _ => by omega, fun _ => by omega⟩ Iff.rfl)
          refine ⟨r, hr, ev_k ?_⟩
          simp only [spec_l08Reverse.l1]
          refine ev_neg (by omega) ?_
          rwa [w64 (a := v + 1) (by omega) (by omega)]
        | succ e ihe =>
          intro w m w0 w1 he hm
          have hh := d_has n l v w v0 (by omega) w0 (by omega)
          by_cases hb : tb (rd l v) w = true
          · obtain ⟨r, hr, hx⟩ := ihe (w + 1) _ (by omega) (by omega) (by omega) ((hm.or n2 w0 (by omega : w < n) v0 (by omega)).imp (Q := fun b a => (a < v ∨ (a = v ∧ b < w + 1)) ∧ tb (rd l a) b = true) fun b a b0 b1 a0 a1 => by
              constructor
              · rintro (⟨h, q⟩ | ⟨rfl, rfl⟩)
                · exact ⟨by omega, q⟩
                · exact ⟨by omega, hb⟩
              · rintro ⟨h, q⟩
                by_cases z : b = w ∧ a = v
                · exact .inr z
                · exact .inl ⟨by omega, q⟩)
            refine ⟨r, hr, ev_k ?_⟩
            simp only [spec_l08Reverse.l1, hh, Option.bind_some]
            rw [wu64 v0 (by omega), w64 (a := w + 1) (by omega) (by omega)]
            exact ev_pos (by omega) (ev_pos hb (ev_pos w0 (ev_pos (by have := hm.1; omega) (ev_pos v0 hx))))
          · obtain ⟨r, hr, hx⟩ := ihe (w + 1) m (by omega) (by omega) (by omega) (hm.imp fun b a b0 b1 a0 a1 => by
              constructor
              · rintro ⟨h, q⟩
                exact ⟨by omega, q⟩
              · rintro ⟨h, q⟩
                by_cases z : a = v ∧ b = w
                · obtain ⟨rfl, rfl⟩ := z
                  exact absurd q hb
                · exact ⟨by omega, q⟩)
            refine ⟨r, hr, ev_k ?_⟩
            simp only [spec_l08Reverse.l1, hh, Option.bind_some]
            rw [w64 (a := w + 1) (by omega) (by omega)]
            exact ev_pos (by omega) (ev_neg hb hx)
      obtain ⟨r, hr, hx⟩ := inner n.toNat 0 m (by omega) (by omega) (by omega) (hm.imp fun b a b0 b1 a0 a1 => and_congr (by omega) Iff.rfl)
      refine ⟨r, hr, ev_k ?_⟩
      simp only [spec_l08Reverse.l0]
      exact ev_pos (by omega) hx
  obtain ⟨r, hr, hx⟩ := outer n.toNat 0 _ (by omega) (by omega) (by omega) ((Mx.zero n (by omega)).imp fun a b a0 a1 b0 b1 => ⟨False.elim, fun z => by omega⟩)
  refine ⟨r, hr, ?_⟩
  unfold spec_l08Reverse.f
  exact ev_pos (by omega) (ev_pos (by omega) hx)
end Go.Proofs.Ytcffgfomicpbfaa.Q
