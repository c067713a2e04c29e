/- The program's RegularDegree returns what the reference's returns, and leaves the rows as they were. -/
import Derived.Test.YtanhfejpdhneiaaP41
import Derived.Test.YtanhfejpdhneiaaP47
import Derived.Test.YtanhfejpdhneiaaP48
import Derived.Test.YtanhfejpdhneiaaQRegFn
import Derived.Test.YtanhfejpdhneiaaQLawG
namespace Go.Proofs.Ytanhfejpdhneiaa.Pure
open Go Go.RowKit Go.Proofs.Ytanhfejpdhneiaa.P Go.Proofs.YtanhfejpdhneiaaW.PrintWords Go.Proofs.YtanhfejpdhneiaaW.PrintLast Go.Proofs.Ytanhfejpdhneiaa.Q
theorem both (n : Int) (l : List Int) : ∃ d c, Ev (fun k => spec_RegularDegree.f k n l) (d, c) ∧ Ev (fun k => impl_RegularDegree.f k n l) (d, c) := by
  unfold spec_RegularDegree.f impl_RegularDegree.f
  by_cases hg : isG n l
  · obtain ⟨r, h1, h2, _, _⟩ := regulars hg.1
    by_cases h : r < 0
    · exact ⟨0, 5, Ev.bind ((s_is n l).yes hg) (ev_pos rfl (Ev.bind h1 (ev_pos h (Ev.now _)))), Ev.bind ((i_is n l).yes hg) (ev_pos rfl (Ev.bind h2 (ev_pos h (Ev.now _))))⟩
    · exact ⟨r, 0, Ev.bind ((s_is n l).yes hg) (ev_pos rfl (Ev.bind h1 (ev_neg h (Ev.now _)))), Ev.bind ((i_is n l).yes hg) (ev_pos rfl (Ev.bind h2 (ev_neg h (Ev.now _))))⟩
  · exact ⟨0, 1, Ev.bind ((s_is n l).no hg) (ev_neg (by decide) (Ev.now _)), Ev.bind ((i_is n l).no hg) (ev_neg (by decide) (Ev.now _))⟩
theorem FnExactRegularDegree : ∀ (a0_0 : Int) (l0_1 : List Int), (Lit.int .i64 a0_0).wf = true → l0_1.length ≤ maxLen → (∀ x ∈ l0_1, (Lit.int .i64 x).wf = true) → ∃ k, laws_FnExactRegularDegree.f k a0_0 l0_1 = some true := by
  intro n l _ hl _
  refine Ev.rounds ?_
  unfold laws_FnExactRegularDegree.f
  rw [szG n l hl]
  simp only [Option.bind_some]
  by_cases hs : l.length ≤ 1048576
  · rw [if_pos hs]
    refine ev_neg (by omega) ?_
    obtain ⟨d, c, h1, h2⟩ := both n l
    refine Ev.bind (toG n l hs) (Ev.bind h1 (Ev.bind (toG n l hs) (Ev.bind h2 (ev_pos rfl ?_))))
    refine ev_k ?_
    simp only [laws_FnExactRegularDegree.j0]
    exact ev_neg (by simp) (Ev.bind (toG n l hs) (Ev.bind (eqG n l hs) (ev_pos rfl (Ev.now _))))
  · rw [if_neg hs]
    exact ev_pos (by decide) (Ev.now _)
end Go.Proofs.Ytanhfejpdhneiaa.Pure
