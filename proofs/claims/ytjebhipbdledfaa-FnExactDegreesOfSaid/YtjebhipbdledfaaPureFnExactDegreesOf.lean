/- The program's DegreesOf returns what the reference's returns, in memory of its own, for every pair of a size and rows (of at most 2^20 rows: to more the law itself says yes); the rows are left as they were. -/
import Derived.Test.YtjebhipbdledfaaP78
import Derived.Test.YtjebhipbdledfaaQDegFn
import Derived.Test.YtjebhipbdledfaaQLawFn
namespace Go.Proofs.Ytjebhipbdledfaa.Pure
open Go Go.RowKit Go.Proofs.Ytjebhipbdledfaa.P Go.Proofs.YtjebhipbdledfaaW.PrintWords Go.Proofs.YtjebhipbdledfaaW.PrintLast Go.Proofs.Ytjebhipbdledfaa.Q
theorem spec_degs {n : Int} {l : List Int} (h : rows n l) : Ev (fun k => spec_DegreesOf.l0 k [] 0 n l) (degs l n.toNat, 0) := by
  have n2 := h.2.1
  have loop : ∀ (d : Nat) (i : Nat), (i : Int) ≤ n → n - i = d → Ev (fun k => spec_DegreesOf.l0 k (degs l i) i n l) (degs l n.toNat, 0) := by
    intro d
    induction d with
    | zero =>
      intro i h1 hd
      refine ev_k ?_
      simp only [spec_DegreesOf.l0]
      refine ev_neg (by omega) (ev_some ?_)
      rw [show i = n.toNat by omega]
    | succ d ih =>
      intro i h1 hd
      refine ev_k ?_
      simp only [spec_DegreesOf.l0]
      refine ev_pos (by omega) (Ev.bind (s_degree h (show (0 : Int) ≤ i by omega) (show (i : Int) < n by omega)) (ev_pos (by rw [degs_length]; omega) ?_))
      rw [w64 (by omega) (by omega), ← degs_succ]
      exact ih (i + 1) (by omega) (by omega)
  exact loop n.toNat 0 (by have := h.1; omega) (by have := h.1; omega)
theorem both (n : Int) (l : List Int) : ∃ r c, r.length ≤ 62 ∧ Ev (fun m => spec_DegreesOf.f m n l) (r, c) ∧ Ev (fun m => impl_DegreesOf.f m n l) (r, c) := by
  by_cases hg : isG n l
  · refine ⟨degs l n.toNat, 0, by rw [degs_length]; have := hg.1.2.1; omega, ?_, ?_⟩
    · unfold spec_DegreesOf.f
      exact Ev.bind ((s_is n l).yes hg) (ev_pos rfl (spec_degs hg.1))
    · unfold impl_DegreesOf.f
      exact Ev.bind ((i_is n l).yes hg) (ev_pos rfl (Ev.bind (i_degrees hg.1) (Ev.now _)))
  · refine ⟨[], 1, by simp, ?_, ?_⟩
    · unfold spec_DegreesOf.f
      exact Ev.bind ((s_is n l).no hg) (ev_neg (by decide) (Ev.now _))
    · unfold impl_DegreesOf.f
      exact Ev.bind ((i_is n l).no hg) (ev_neg (by decide) (Ev.now _))
theorem FnExactDegreesOf : ∀ (a0_0 : Int) (l0_1 : List Int), (Lit.int .i64 a0_0).wf = true → l0_1.length ≤ maxLen → (∀ x ∈ l0_1, (Lit.int .i64 x).wf = true) → ∃ k, laws_FnExactDegreesOf.f k a0_0 l0_1 = some true := by
  intro n l _ hl _
  refine Ev.rounds ?_
  unfold laws_FnExactDegreesOf.f laws_szGraph.f
  rw [szS l hl]
  simp only [Option.bind_some]
  by_cases hs : l.length ≤ 1048576
  · rw [if_pos hs, if_neg (by omega)]
    refine ev_bind0 rfl (ev_neg (by omega) ?_)
    have tg : Ev (fun m => laws_toGraph.f m n l) (n, l) := by
      unfold laws_toGraph.f
      exact Ev.bind (toS l (by omega)) (Ev.now _)
    obtain ⟨r, c, hr, h1, h2⟩ := both n l
    have er := eqS_self r (by omega)
    refine Ev.bind tg (Ev.bind h1 (Ev.bind tg (Ev.bind h2 (Ev.bind er (ev_pos rfl ?_)))))
    refine ev_k ?_
    simp only [laws_FnExactDegreesOf.j0]
    refine ev_neg (by simp) (Ev.bind tg (Ev.bind (a := true) ?_ (ev_pos rfl ?_)))
    · unfold laws_eqGraph.f
      exact ev_pos rfl (Ev.bind (eqS_self l (by omega)) (ev_pos rfl (Ev.now _)))
    refine Ev.bind (a := (1 + (l.length : Int), marks 1 l.length)) ?_ (ev_neg (by simp only []; omega) (Ev.bind er (ev_pos rfl ?_)))
    · unfold laws_markGraph.f
      exact Ev.bind (markS l 1 (by omega) (by omega)) (Ev.now _)
    refine ev_k ?_
    simp only [laws_FnExactDegreesOf.j1]
    refine ev_neg (by simp) (Ev.bind (markS r 1 (by omega) (by omega)) (Ev.bind (heldS r.length 1 (by omega) (by omega)) (ev_neg (by omega) (ev_pos rfl ?_))))
    refine Ev.bind tg (Ev.bind h2 (Ev.bind er (ev_pos rfl ?_)))
    refine ev_k ?_
    simp only [laws_FnExactDegreesOf.j2]
    exact ev_neg (by simp) (Ev.bind (heldS r.length 1 (by omega) (by omega)) (ev_neg (by omega) (ev_pos rfl (Ev.now _))))
  · rw [if_neg hs]
    exact ev_bind0 rfl (ev_pos (by decide) (Ev.now _))
end Go.Proofs.Ytjebhipbdledfaa.Pure
