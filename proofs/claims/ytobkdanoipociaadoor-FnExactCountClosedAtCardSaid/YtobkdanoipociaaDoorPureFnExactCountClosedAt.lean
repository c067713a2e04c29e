/- The program's CountClosedAt returns what the reference's returns, and leaves the rows as they were. -/
import Derived.Test.YtobkdanoipociaaDoorP18
import Derived.Test.YtobkdanoipociaaDoorP22
import Derived.Test.YtobkdanoipociaaDoorP24
import Derived.Test.YtobkdanoipociaaDoorQWalkFn
import Derived.Test.YtobkdanoipociaaDoorQCodeFn
import Derived.Test.YtobkdanoipociaaDoorQLawG
namespace Go.Proofs.YtobkdanoipociaaDoor.Pure
open Go Go.RowKit Go.Proofs.YtobkdanoipociaaDoor.P Go.Proofs.YtobkdanoipociaaDoorW.PrintWords Go.Proofs.YtobkdanoipociaaDoorW.PrintLast Go.Proofs.YtobkdanoipociaaDoorW.PrintMore Go.Proofs.YtobkdanoipociaaDoor.Q
theorem s_walks {n : Int} {l : List Int} (h : rows n l) {u : Int} (u0 : 0 ≤ u) (u1 : u < n) (t : Nat) (t1 : t ≤ 1000) : ∀ a : List Int, a.length = n.toNat → Ev (fun k => spec_CountClosedAt.l0 k u t a n l) (rd (steps l n t a) u, 0) := by
  have n1 := h.1
  have n2 := h.2.1
  have hl := h.2.2.1
  induction t with
  | zero =>
    intro a ha
    refine ev_k ?_
    simp only [spec_CountClosedAt.l0]
    exact ev_neg (by omega) (ev_pos u0 (ev_pos (by omega) (Ev.now _)))
  | succ t ih =>
    intro a ha
    have mid : ∀ (e : Nat) (v : Nat) (b : List Int), (v : Int) ≤ n → n - v = e → b.length = n.toNat → Ev (fun k => spec_CountClosedAt.l1 k u ((t + 1 : Nat) : Int) a b v n l) (rd (steps l n t (nextFrom l a e v b)) u, 0) := by
      intro e
      induction e with
      | zero =>
        intro v b v1 he hb
        refine ev_k ?_
        simp only [spec_CountClosedAt.l1]
        refine ev_neg (by omega) ?_
        rw [w64 (a := ((t + 1 : Nat) : Int) - 1) (by omega) (by omega), show ((t + 1 : Nat) : Int) - 1 = (t : Int) by omega]
        exact ih (by omega) b hb
      | succ e ihe =>
        intro v b v1 he hb
        obtain ⟨hr0, hr1⟩ := h.2.2.2 v (by omega) (by omega)
        have inner : ∀ (q : Nat) (w : Nat) (c : List Int), (w : Int) ≤ n → n - w = q → c.length = n.toNat → Ev (fun k => spec_CountClosedAt.l2 k u ((t + 1 : Nat) : Int) a c v w n l) (rd (steps l n t (nextFrom l a e (v + 1) (addAll (rd a v) c (onesFrom (rd l v).toNat q w)))) u, 0) := by
          intro q
          induction q with
          | zero =>
            intro w c w1 hq hc
            refine ev_k ?_
            simp only [spec_CountClosedAt.l2]
            refine ev_neg (by omega) ?_
            rw [w64 (a := (v : Int) + 1) (by omega) (by omega)]
            exact ihe (v + 1) c (by omega) (by omega) hc
          | succ q ihq =>
            intro w c w1 hq hc
            have hh : (bits .and .i64 (shr .i64 (rd l v) w) 1 = 1) ↔ tb (rd l v) w = true := by rw [bit_at (by omega) (by omega)]; cases tb (rd l v) w <;> simp
            have ht : tb (rd l v) w = (rd l v).toNat.testBit w := by rw [tb_toNat hr0 (by omega), Int.toNat_natCast]
            by_cases hb : tb (rd l v) w = true
            · have := ihq (w + 1) (c.set w (wrap64 (rd c w + rd a v))) (by omega) (by omega) (by simpa using hc)
              refine ev_k ?_
              simp only [spec_CountClosedAt.l2]
              rw [wu64 (a := (w : Int)) (by omega) (by omega), w64 (a := (w : Int) + 1) (by omega) (by omega)]
              refine ev_pos (by omega) (ev_pos (by omega) (ev_pos (by omega) (ev_pos (by omega) (ev_pos (hh.2 hb) (ev_pos (by omega) (ev_pos (by omega) (ev_pos (by omega) ?_)))))))
              rw [ht] at hb
              simp only [onesFrom, hb, if_true, addAll, Int.toNat_natCast]
              exact this
            · have := ihq (w + 1) c (by omega) (by omega) hc
              refine ev_k ?_
              simp only [spec_CountClosedAt.l2]
              rw [wu64 (a := (w : Int)) (by omega) (by omega), w64 (a := (w : Int) + 1) (by omega) (by omega)]
              refine ev_pos (by omega) (ev_pos (by omega) (ev_pos (by omega) (ev_pos (by omega) (ev_neg (fun z => hb (hh.1 z)) ?_))))
              rw [ht] at hb
              simp only [onesFrom, hb]
              exact this
        refine ev_k ?_
        simp only [spec_CountClosedAt.l1]
        refine ev_pos (by omega) ?_
        have := inner n.toNat 0 b (by omega) (by omega) hb
        rw [← ones_to (by omega) n2 hr0 hr1] at this
        simpa [nextFrom] using this
    refine ev_k ?_
    simp only [spec_CountClosedAt.l0]
    refine ev_pos (by omega) (ev_pos (by omega) (ev_pos (by omega) ?_))
    exact mid n.toNat 0 _ (by omega) (by omega) (by simp)
theorem both (n : Int) (l : List Int) (v t : Int) : ∃ r c, Ev (fun k => spec_CountClosedAt.f k n l v t) (r, c) ∧ Ev (fun k => impl_CountClosedAt.f k n l v t) (r, c) := by
  obtain ⟨c, hs, hi, hc⟩ := codes n l [v] (by simp)
  unfold spec_CountClosedAt.f impl_CountClosedAt.f
  simp only [s_in, Option.bind_some]
  by_cases h0 : c = 0
  · obtain ⟨hg, hv⟩ := hc.1 h0
    have hg := hg.1
    obtain ⟨v0, v1⟩ := hv v (by simp)
    have n1 := hg.1
    have n2 := hg.2.1
    by_cases ht : 0 ≤ t ∧ t ≤ 8
    · have hx := i_walks hg v0 v1 ht.1 (by omega)
      have hy := s_walks hg v0 v1 t.toNat (by omega) ((List.replicate n.toNat 0).set v.toNat 1) (by simp)
      have hlen := steps_length l n t.toNat ((List.replicate n.toNat 0).set v.toNat 1) (by simp)
      rw [Int.toNat_of_nonneg ht.1] at hy
      refine ⟨_, 0, Ev.bind hs (ev_pos h0 (ev_k ?_)), Ev.bind hi (ev_pos h0 (ev_neg (by omega) (ev_neg (by omega) (Ev.bind hx (ev_pos v0 (ev_pos (by omega) (Ev.now _)))))))⟩
      simp only [spec_CountClosedAt.j0]
      refine ev_neg (by simp; omega) (ev_k ?_)
      simp only [spec_CountClosedAt.j1]
      refine ev_pos h0 (ev_pos (by omega) (ev_pos (by omega) ?_))
      simp only [Option.bind_some]
      exact ev_pos v0 (ev_pos (by simp; omega) hy)
    · refine ⟨0, 2, Ev.bind hs (ev_pos h0 (ev_k ?_)), Ev.bind hi (ev_pos h0 ?_)⟩
      · simp only [spec_CountClosedAt.j0]
        refine ev_pos (by simp; omega) (ev_k ?_)
        simp only [spec_CountClosedAt.j1]
        exact ev_neg (by omega) (Ev.now _)
      · by_cases h : t < 0
        · exact ev_pos h (Ev.now _)
        · exact ev_neg h (ev_pos (by omega) (Ev.now _))
  · refine ⟨0, c, Ev.bind hs (ev_neg h0 (ev_k ?_)), Ev.bind hi (ev_neg h0 (Ev.now _))⟩
    simp only [spec_CountClosedAt.j0]
    refine ev_neg (by simp) (ev_k ?_)
    simp only [spec_CountClosedAt.j1]
    exact ev_neg h0 (Ev.now _)
theorem FnExactCountClosedAt : ∀ (a0_0 : Int) (l0_1 : List Int) (a1 : Int) (a2 : Int), (Lit.int .i64 a0_0).wf = true → l0_1.length ≤ maxLen → (∀ x ∈ l0_1, (Lit.int .i64 x).wf = true) → (Lit.int .i64 a1).wf = true → (Lit.int .i64 a2).wf = true → ∃ k, laws_FnExactCountClosedAt.f k a0_0 l0_1 a1 a2 = some true := by
  intro n l a1 a2 _ hl _ _ _
  refine Ev.rounds ?_
  unfold laws_FnExactCountClosedAt.f
  rw [szG n l hl]
  simp only [Option.bind_some]
  by_cases hs : l.length ≤ 1048576
  · rw [if_pos hs]
    refine ev_neg (by omega) ?_
    obtain ⟨r, c, h1, h2⟩ := both n l a1 a2
    refine Ev.bind (toG n l hs) (Ev.bind h1 (Ev.bind (toG n l hs) (Ev.bind h2 (ev_pos rfl ?_))))
    refine ev_k ?_
    simp only [laws_FnExactCountClosedAt.j0]
    exact ev_neg (by simp) (Ev.bind (toG n l hs) (Ev.bind (eqG n l hs) (ev_pos rfl (Ev.now _))))
  · rw [if_neg hs]
    exact ev_pos (by decide) (Ev.now _)
end Go.Proofs.YtobkdanoipociaaDoor.Pure
