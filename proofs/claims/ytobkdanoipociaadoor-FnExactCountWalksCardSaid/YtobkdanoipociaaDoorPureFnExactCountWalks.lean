/- The program's CountWalks returns what the reference's returns, and leaves the rows as they were. -/
import Derived.Test.YtobkdanoipociaaDoorP11
import Derived.Test.YtobkdanoipociaaDoorP14
import Derived.Test.YtobkdanoipociaaDoorP4
import Derived.Test.YtobkdanoipociaaDoorQWalkFn
import Derived.Test.YtobkdanoipociaaDoorQDiFn
import Derived.Test.YtobkdanoipociaaDoorQLawG
namespace Go.Proofs.YtobkdanoipociaaDoor.Pure
open Go Go.RowKit Go.Proofs.YtobkdanoipociaaDoor.P Go.Proofs.YtobkdanoipociaaDoorW.PrintWords Go.Proofs.YtobkdanoipociaaDoorW.PrintLast Go.Proofs.YtobkdanoipociaaDoorW.PrintMore Go.Proofs.YtobkdanoipociaaDoor.Q
theorem s_walks {n : Int} {l : List Int} (h : rows n l) {u : Int} (u0 : 0 ≤ u) (u1 : u < n) (t : Nat) (t1 : t ≤ 1000) : ∀ a : List Int, a.length = n.toNat → Ev (fun k => spec_CountWalks.l0 k u t a n l) (rd (steps l n t a) u, 0) := by
  have n1 := h.1
  have n2 := h.2.1
  have hl := h.2.2.1
  induction t with
  | zero =>
    intro a ha
    refine ev_k ?_
    simp only [spec_CountWalks.l0]
    exact ev_neg (by omega) (ev_pos u0 (ev_pos (by omega) (Ev.now _)))
  | succ t ih =>
    intro a ha
    have mid : ∀ (e : Nat) (v : Nat) (b : List Int), (v : Int) ≤ n → n - v = e → b.length = n.toNat → Ev (fun k => spec_CountWalks.l1 k u ((t + 1 : Nat) : Int) a b v n l) (rd (steps l n t (nextFrom l a e v b)) u, 0) := by
      intro e
      induction e with
      | zero =>
        intro v b v1 he hb
        refine ev_k ?_
        simp only [spec_CountWalks.l1]
        refine ev_neg (by omega) ?_
        rw [w64 (a := ((t + 1 : Nat) : Int) - 1) (by omega) (by omega), show ((t + 1 : Nat) : Int) - 1 = (t : Int) by omega]
        exact ih (by omega) b hb
      | succ e ihe =>
        intro v b v1 he hb
        obtain ⟨hr0, hr1⟩ := h.2.2.2 v (by omega) (by omega)
        have inner : ∀ (q : Nat) (w : Nat) (c : List Int), (w : Int) ≤ n → n - w = q → c.length = n.toNat → Ev (fun k => spec_CountWalks.l2 k u ((t + 1 : Nat) : Int) a c v w n l) (rd (steps l n t (nextFrom l a e (v + 1) (addAll (rd a v) c (onesFrom (rd l v).toNat q w)))) u, 0) := by
          intro q
          induction q with
          | zero =>
            intro w c w1 hq hc
            refine ev_k ?_
            simp only [spec_CountWalks.l2]
            refine ev_neg (by omega) ?_
            rw [w64 (a := (v : Int) + 1) (by omega) (by omega)]
            exact ihe (v + 1) c (by omega) (by omega) hc
          | succ q ihq =>
            intro w c w1 hq hc
            have hh := d_has n l v w (by omega) (by omega) (by omega) (by omega)
            have ht : tb (rd l v) w = (rd l v).toNat.testBit w := by rw [tb_toNat hr0 (by omega), Int.toNat_natCast]
            by_cases hb : tb (rd l v) w = true
            · have := ihq (w + 1) (c.set w (wrap64 (rd c w + rd a v))) (by omega) (by omega) (by simpa using hc)
              refine ev_k ?_
              simp only [spec_CountWalks.l2, hh, Option.bind_some]
              rw [w64 (a := (w : Int) + 1) (by omega) (by omega)]
              refine ev_pos (by omega) (ev_pos hb (ev_pos (by omega) (ev_pos (by omega) (ev_pos (by omega) (ev_pos (by omega) ?_)))))
              rw [ht] at hb
              simp only [onesFrom, hb, if_true, addAll, Int.toNat_natCast]
              exact this
            · have := ihq (w + 1) c (by omega) (by omega) hc
              refine ev_k ?_
              simp only [spec_CountWalks.l2, hh, Option.bind_some]
              rw [w64 (a := (w : Int) + 1) (by omega) (by omega)]
              refine ev_pos (by omega) (ev_neg hb ?_)
              rw [ht] at hb
              simp only [onesFrom, hb]
              exact this
        refine ev_k ?_
        simp only [spec_CountWalks.l1]
        refine ev_pos (by omega) ?_
        have := inner n.toNat 0 b (by omega) (by omega) hb
        rw [← ones_to (by omega) n2 hr0 hr1] at this
        simpa [nextFrom] using this
    refine ev_k ?_
    simp only [spec_CountWalks.l0]
    refine ev_pos (by omega) (ev_pos (by omega) (ev_pos (by omega) ?_))
    exact mid n.toNat 0 _ (by omega) (by omega) (by simp)
theorem both (n : Int) (l : List Int) (v u t : Int) : ∃ r c, Ev (fun k => spec_CountWalks.f k n l v u t) (r, c) ∧ Ev (fun k => impl_CountWalks.f k n l v u t) (r, c) := by
  unfold spec_CountWalks.f impl_CountWalks.f
  simp only [s_in, Option.bind_some]
  by_cases hg : rows n l
  · have n1 := hg.1
    have n2 := hg.2.1
    have hw : wrap64 (n - 1) = n - 1 := w64 (by omega) (by omega)
    rw [hw]
    have hi : ∀ {f : Nat → Option (Int × Int)} {r}, Ev f r → Ev (fun k => (impl_IsDigraph.f n l).bind fun t161 => if t161 = true then f k else some (0, 1)) r := fun H => ev_bind0 (i_di_yes hg) (ev_pos rfl H)
    by_cases hv : 0 ≤ v ∧ v < n
    · by_cases hu : 0 ≤ u ∧ u < n
      · by_cases ht : 0 ≤ t ∧ t ≤ 8
        · have hs := s_walks hg hu.1 hu.2 t.toNat (by omega) ((List.replicate n.toNat 0).set v.toNat 1) (by simp)
          have hx := i_walks hg hv.1 hv.2 ht.1 (by omega)
          have hlen := steps_length l n t.toNat ((List.replicate n.toNat 0).set v.toNat 1) (by simp)
          rw [Int.toNat_of_nonneg ht.1] at hs
          refine ⟨_, 0, Ev.bind ((s_di n l).yes hg) (ev_pos rfl (ev_pos (decide_eq_true (by omega)) (ev_pos (decide_eq_true (by omega)) (ev_pos (decide_eq_true (by omega)) (ev_pos (by omega) (ev_pos (by omega) (ev_pos hv.1 (ev_pos (by simp; omega) hs)))))))), ?_⟩
          exact hi (ev_neg (by omega) (ev_neg (by omega) (ev_neg (by omega) (ev_neg (by omega) (ev_neg (by omega) (ev_neg (by omega) (Ev.bind hx (ev_pos hu.1 (ev_pos (by omega) (Ev.now _))))))))))
        · refine ⟨0, 2, Ev.bind ((s_di n l).yes hg) (ev_pos rfl (ev_pos (decide_eq_true (by omega)) (ev_pos (decide_eq_true (by omega)) (ev_neg (by simp; omega) (Ev.now _))))), ?_⟩
          refine hi (ev_neg (by omega) (ev_neg (by omega) (ev_neg (by omega) (ev_neg (by omega) ?_))))
          by_cases h : t < 0
          · exact ev_pos h (Ev.now _)
          · exact ev_neg h (ev_pos (by omega) (Ev.now _))
      · refine ⟨0, 2, Ev.bind ((s_di n l).yes hg) (ev_pos rfl (ev_pos (decide_eq_true (by omega)) (ev_neg (by simp; omega) (Ev.now _)))), ?_⟩
        refine hi (ev_neg (by omega) (ev_neg (by omega) ?_))
        by_cases h : u < 0
        · exact ev_pos h (Ev.now _)
        · exact ev_neg h (ev_pos (by omega) (Ev.now _))
    · refine ⟨0, 2, Ev.bind ((s_di n l).yes hg) (ev_pos rfl (ev_neg (by simp; omega) (Ev.now _))), ?_⟩
      refine hi ?_
      by_cases h : v < 0
      · exact ev_pos h (Ev.now _)
      · exact ev_neg h (ev_pos (by omega) (Ev.now _))
  · exact ⟨0, 1, Ev.bind ((s_di n l).no hg) (ev_neg (by decide) (Ev.now _)), ev_bind0 (i_di_no hg) (ev_neg (by decide) (Ev.now _))⟩
theorem FnExactCountWalks : ∀ (a0_0 : Int) (l0_1 : List Int) (a1 : Int) (a2 : Int) (a3 : Int), (Lit.int .i64 a0_0).wf = true → l0_1.length ≤ maxLen → (∀ x ∈ l0_1, (Lit.int .i64 x).wf = true) → (Lit.int .i64 a1).wf = true → (Lit.int .i64 a2).wf = true → (Lit.int .i64 a3).wf = true → ∃ k, laws_FnExactCountWalks.f k a0_0 l0_1 a1 a2 a3 = some true := by
  intro n l a1 a2 a3 _ hl _ _ _ _
  refine Ev.rounds ?_
  unfold laws_FnExactCountWalks.f
  rw [szD n l hl]
  simp only [Option.bind_some]
  by_cases hs : l.length ≤ 1048576
  · rw [if_pos hs]
    refine ev_neg (by omega) ?_
    obtain ⟨r, c, h1, h2⟩ := both n l a1 a2 a3
    refine Ev.bind (toD n l hs) (Ev.bind h1 (Ev.bind (toD n l hs) (Ev.bind h2 (ev_pos rfl ?_))))
    refine ev_k ?_
    simp only [laws_FnExactCountWalks.j0]
    exact ev_neg (by simp) (Ev.bind (toD n l hs) (Ev.bind (eqD n l hs) (ev_pos rfl (Ev.now _))))
  · rw [if_neg hs]
    exact ev_pos (by decide) (Ev.now _)
end Go.Proofs.YtobkdanoipociaaDoor.Pure
