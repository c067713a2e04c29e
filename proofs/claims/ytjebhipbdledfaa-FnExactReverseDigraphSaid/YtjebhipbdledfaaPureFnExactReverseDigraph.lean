/- The program's ReverseDigraph returns what the reference's returns, in memory of its own, for every pair of a size and rows (of at most 2^20 rows); the rows are left as they were. -/
import Derived.Test.YtjebhipbdledfaaP55
import Derived.Test.YtjebhipbdledfaaP58
import Derived.Test.YtjebhipbdledfaaP60
import Derived.Test.YtjebhipbdledfaaQRevFn
import Derived.Test.YtjebhipbdledfaaQLawG
namespace Go.Proofs.Ytjebhipbdledfaa.Pure
open Go Go.RowKit Go.Proofs.Ytjebhipbdledfaa.P Go.Proofs.YtjebhipbdledfaaW.PrintWords Go.Proofs.YtjebhipbdledfaaW.PrintLast Go.Proofs.Ytjebhipbdledfaa.Q
theorem both (n : Int) (l : List Int) : ∃ m r c, r.length ≤ 1048576 ∧ Ev (fun k => spec_ReverseDigraph.f k n l) (m, r, c) ∧ Ev (fun k => impl_ReverseDigraph.f k n l) (m, r, c) := by
  by_cases hg : rows n l
  · obtain ⟨r, hr, hx⟩ := s_reverse hg
    obtain ⟨r', hr', hx'⟩ := i_reversed hg
    obtain rfl := hr.eq hr' (by have := hg.1; omega)
    refine ⟨n, r, 0, by have := hr.1; have := hg.2.1; omega, ?_, ?_⟩
    · unfold spec_ReverseDigraph.f
      exact Ev.bind ((s_di n l).yes hg) (ev_pos rfl (Ev.bind hx (Ev.now _)))
    · unfold impl_ReverseDigraph.f
      exact ev_bind0 (i_di_yes hg) (ev_pos rfl (Ev.bind hx' (Ev.now _)))
  · refine ⟨0, [], 1, by simp, ?_, ?_⟩
    · unfold spec_ReverseDigraph.f
      exact Ev.bind ((s_di n l).no hg) (ev_neg (by decide) (Ev.now _))
    · unfold impl_ReverseDigraph.f
      exact ev_bind0 (i_di_no hg) (ev_neg (by decide) (Ev.now _))
theorem FnExactReverseDigraph : ∀ (a0_0 : Int) (l0_1 : List Int), (Lit.int .i64 a0_0).wf = true → l0_1.length ≤ maxLen → (∀ x ∈ l0_1, (Lit.int .i64 x).wf = true) → ∃ k, laws_FnExactReverseDigraph.f k a0_0 l0_1 = some true := by
  intro n l _ hl _
  refine Ev.rounds ?_
  unfold laws_FnExactReverseDigraph.f
  rw [szD n l hl]
  simp only [Option.bind_some]
  by_cases hs : l.length ≤ 1048576
  · rw [if_pos hs]
    refine ev_neg (by omega) ?_
    obtain ⟨m, r, c, hr, h1, h2⟩ := both n l
    refine Ev.bind (toD n l hs) (Ev.bind h1 (Ev.bind (toD n l hs) (Ev.bind h2 (Ev.bind (eqD m r hr) (ev_pos rfl ?_)))))
    refine ev_k ?_
    simp only [laws_FnExactReverseDigraph.j0]
    refine ev_neg (by simp) (Ev.bind (toD n l hs) (Ev.bind (eqD n l hs) (ev_pos rfl (Ev.bind (markD n l hs) (ev_neg (by simp only []; omega) (Ev.bind (eqD m r hr) (ev_pos rfl ?_)))))))
    refine ev_k ?_
    simp only [laws_FnExactReverseDigraph.j1]
    refine ev_neg (by simp) (Ev.bind (markD m r hr) (Ev.bind (heldD m r.length hr) (ev_neg (by omega) (ev_pos rfl ?_))))
    refine Ev.bind (toD n l hs) (Ev.bind h2 (Ev.bind (eqD m r hr) (ev_pos rfl ?_)))
    refine ev_k ?_
    simp only [laws_FnExactReverseDigraph.j2]
    exact ev_neg (by simp) (Ev.bind (heldD m r.length hr) (ev_neg (by omega) (ev_pos rfl (Ev.now _))))
  · rw [if_neg hs]
    exact ev_pos (by decide) (Ev.now _)
end Go.Proofs.Ytjebhipbdledfaa.Pure
