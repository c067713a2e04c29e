/- The program's EdgesLeft returns what the reference's returns, for every pair of a size and rows (of at most 2^20 rows: to more the law itself says yes) and every number; the rows are left as they were. -/
import Derived.Test.YtjebhipbdledfaaP75
import Derived.Test.YtjebhipbdledfaaQDegFn
import Derived.Test.YtjebhipbdledfaaQLawFn
namespace Go.Proofs.Ytjebhipbdledfaa.Pure
open Go Go.RowKit Go.Proofs.Ytjebhipbdledfaa.P Go.Proofs.YtjebhipbdledfaaW.PrintWords Go.Proofs.YtjebhipbdledfaaW.PrintLast Go.Proofs.Ytjebhipbdledfaa.Q
/-- The two loops go side by side. -/
theorem left {n : Int} {l : List Int} (h : rows n l) (k : Int) (k0 : 1 ≤ k) (k1 : k ≤ 6) (d : Nat) : ∀ (i s : Int), 0 ≤ i → i ≤ n → n - i = d → 0 ≤ s → s ≤ 10 * i →
    ∃ r, Ev (fun m => spec_EdgesLeft.l0 m k s i n l) r ∧ Ev (fun m => impl_EdgesLeft.l0 m k s (degs l n.toNat) n i) r := by
  have n2 := h.2.1
  induction d with
  | zero =>
    intro i s i0 i1 hd s0 s1
    refine ⟨(wrap64 (Int.tdiv s 2), 0), ev_k ?_, ev_k ?_⟩
    · simp only [spec_EdgesLeft.l0]
      exact ev_neg (by omega) (Ev.now _)
    · simp only [impl_EdgesLeft.l0]
      exact ev_neg (by omega) (Ev.now _)
  | succ d ih =>
    intro i s i0 i1 hd s0 s1
    have hv : i < n := by omega
    have dr := deg_range l i
    have ea : rd (degs l n.toNat) i = deg l i := degs_at l _ i i0 (by omega)
    have el : i < ((degs l n.toNat).length : Int) := by rw [degs_length]; omega
    by_cases hk : deg l i > k
    · refine ⟨(0, 5), ev_k ?_, ev_k ?_⟩
      · simp only [spec_EdgesLeft.l0]
        exact ev_pos hv (Ev.bind (s_degree h i0 hv) (ev_pos hk (Ev.now _)))
      · simp only [impl_EdgesLeft.l0, ea]
        exact ev_pos hv (ev_pos i0 (ev_pos el (ev_pos hk (Ev.now _))))
    · obtain ⟨r, hs, hi⟩ := ih (i + 1) (s + (k - deg l i)) (by omega) (by omega) (by omega) (by omega) (by omega)
      refine ⟨r, ev_k ?_, ev_k ?_⟩
      · simp only [spec_EdgesLeft.l0]
        refine ev_pos hv (Ev.bind (s_degree h i0 hv) (ev_neg hk (Ev.bind (s_degree h i0 hv) ?_)))
        rw [w64 (a := s + k) (by omega) (by omega), w64 (a := s + k - deg l i) (by omega) (by omega), w64 (a := i + 1) (by omega) (by omega), show s + k - deg l i = s + (k - deg l i) by omega]
        exact hs
      · simp only [impl_EdgesLeft.l0, ea]
        refine ev_pos hv (ev_pos i0 (ev_pos el (ev_neg hk ?_)))
        rw [w64 (a := k - deg l i) (by omega) (by omega), w64 (a := s + (k - deg l i)) (by omega) (by omega), w64 (a := i + 1) (by omega) (by omega)]
        exact hi
theorem both (n : Int) (l : List Int) (k : Int) : ∃ r, Ev (fun m => spec_EdgesLeft.f m n l k) r ∧ Ev (fun m => impl_EdgesLeft.f m n l k) r := by
  by_cases hg : isG n l
  · have n1 := hg.1.1
    have e : ((degs l n.toNat).length : Int) = n := by rw [degs_length]; omega
    by_cases hk : 1 ≤ k ∧ k ≤ 6
    · obtain ⟨r, hs, hi⟩ := left hg.1 k hk.1 hk.2 n.toNat 0 0 (by omega) (by omega) (by omega) (by omega) (by omega)
      refine ⟨r, ?_, ?_⟩
      · unfold spec_EdgesLeft.f
        refine Ev.bind ((s_is n l).yes hg) (ev_pos rfl ?_)
        rw [s_in]
        exact ev_pos (decide_eq_true hk) hs
      · unfold impl_EdgesLeft.f
        refine Ev.bind ((i_is n l).yes hg) (ev_pos rfl (ev_neg (by omega) (ev_neg (by omega) (Ev.bind (i_degrees hg.1) ?_))))
        rw [e]
        exact hi
    · refine ⟨(0, 2), ?_, ?_⟩
      · unfold spec_EdgesLeft.f
        refine Ev.bind ((s_is n l).yes hg) (ev_pos rfl ?_)
        rw [s_in]
        exact ev_neg (by simpa using hk) (Ev.now _)
      · unfold impl_EdgesLeft.f
        refine Ev.bind ((i_is n l).yes hg) (ev_pos rfl (ev_ite (fun _ => Ev.now _) fun _ => ev_ite (fun _ => Ev.now _) fun _ => ?_))
        omega
  · refine ⟨(0, 1), ?_, ?_⟩
    · unfold spec_EdgesLeft.f
      exact Ev.bind ((s_is n l).no hg) (ev_neg (by decide) (Ev.now _))
    · unfold impl_EdgesLeft.f
      exact Ev.bind ((i_is n l).no hg) (ev_neg (by decide) (Ev.now _))
theorem FnExactEdgesLeft : ∀ (a0_0 : Int) (l0_1 : List Int) (a1 : Int), (Lit.int .i64 a0_0).wf = true → l0_1.length ≤ maxLen → (∀ x ∈ l0_1, (Lit.int .i64 x).wf = true) → (Lit.int .i64 a1).wf = true → ∃ k, laws_FnExactEdgesLeft.f k a0_0 l0_1 a1 = some true := by
  intro n l k _ hl _ _
  refine Ev.rounds ?_
  unfold laws_FnExactEdgesLeft.f laws_szGraph.f
  rw [szS l hl]
  simp only [Option.bind_some]
  by_cases hs : l.length ≤ 1048576
  · rw [if_pos hs, if_neg (by omega)]
    refine ev_bind0 rfl (ev_neg (by omega) ?_)
    have tg : Ev (fun m => laws_toGraph.f m n l) (n, l) := by
      unfold laws_toGraph.f
      exact Ev.bind (toS l (by omega)) (Ev.now _)
    obtain ⟨r, h1, h2⟩ := both n l k
    refine Ev.bind tg (Ev.bind h1 (Ev.bind tg (Ev.bind h2 (ev_pos rfl ?_))))
    refine ev_k ?_
    simp only [laws_FnExactEdgesLeft.j0]
    refine ev_neg (by simp) (Ev.bind tg (Ev.bind (a := true) ?_ (ev_pos rfl (Ev.now _))))
    unfold laws_eqGraph.f
    exact ev_pos rfl (Ev.bind (eqS_self l (by omega)) (ev_pos rfl (Ev.now _)))
  · rw [if_neg hs]
    exact ev_bind0 rfl (ev_pos (by decide) (Ev.now _))
end Go.Proofs.Ytjebhipbdledfaa.Pure
