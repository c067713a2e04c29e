/- The program's DegreeOfDigraph returns what the reference's returns, and leaves the rows as they were. -/
import Derived.Test.YtcffgfomicpbfaaP18
import Derived.Test.YtcffgfomicpbfaaP19
import Derived.Test.YtcffgfomicpbfaaP9
import Derived.Test.YtcffgfomicpbfaaQDegD
import Derived.Test.YtcffgfomicpbfaaQLawG
namespace Go.Proofs.Ytcffgfomicpbfaa.Pure
open Go Go.RowKit Go.Proofs.Ytcffgfomicpbfaa.P Go.Proofs.YtcffgfomicpbfaaW.PrintWords Go.Proofs.YtcffgfomicpbfaaW.PrintLast Go.Proofs.Ytcffgfomicpbfaa.Q
theorem both (n : Int) (l : List Int) : ∃ b c, Ev (fun k => spec_DegreeOfDigraph.f k n l) (b, c) ∧ Ev (fun k => impl_DegreeOfDigraph.f k n l) (b, c) := by
  unfold spec_DegreeOfDigraph.f impl_DegreeOfDigraph.f
  by_cases hg : rows n l
  · obtain ⟨g, _, hs, hi⟩ := degreesD hg
    by_cases z : g < 0
    · exact ⟨0, 5, Ev.bind ((s_di n l).yes hg) (ev_pos rfl (Ev.bind hs (ev_pos z (Ev.now _)))), ev_bind0 (i_di_yes hg) (ev_pos rfl (Ev.bind hi (ev_pos z (Ev.now _))))⟩
    · exact ⟨g, 0, Ev.bind ((s_di n l).yes hg) (ev_pos rfl (Ev.bind hs (ev_neg z (Ev.now _)))), ev_bind0 (i_di_yes hg) (ev_pos rfl (Ev.bind hi (ev_neg z (Ev.now _))))⟩
  · exact ⟨0, 1, Ev.bind ((s_di n l).no hg) (ev_neg (by decide) (Ev.now _)), ev_bind0 (i_di_no hg) (ev_neg (by decide) (Ev.now _))⟩
theorem FnExactDegreeOfDigraph : ∀ (a0_0 : Int) (l0_1 : List Int), (Lit.int .i64 a0_0).wf = true → l0_1.length ≤ maxLen → (∀ x ∈ l0_1, (Lit.int .i64 x).wf = true) → ∃ k, laws_FnExactDegreeOfDigraph.f k a0_0 l0_1 = some true := by
  intro n l _ hl _
  refine Ev.rounds ?_
  unfold laws_FnExactDegreeOfDigraph.f
  rw [szD n l hl]
  simp only [Option.bind_some]
  by_cases hs : l.length ≤ 1048576
  · rw [if_pos hs]
    refine ev_neg (by omega) ?_
    obtain ⟨b, c, h1, h2⟩ := both n l
    refine Ev.bind (toD n l hs) (Ev.bind h1 (Ev.bind (toD n l hs) (Ev.bind h2 (ev_pos rfl ?_))))
    refine ev_k ?_
    simp only [laws_FnExactDegreeOfDigraph.j0]
    exact ev_neg (by simp) (Ev.bind (toD n l hs) (Ev.bind (eqD n l hs) (ev_pos rfl (Ev.now _))))
  · rw [if_neg hs]
    exact ev_pos (by decide) (Ev.now _)
end Go.Proofs.Ytcffgfomicpbfaa.Pure
