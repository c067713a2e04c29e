/- The program's DigraphOf returns what the reference's returns, in memory of its own, for every pair of a size and rows (of at most 2^20 rows: to more the law itself says yes); the rows are left as they were. -/
import Derived.Test.YtjebhipbdledfaaP63
import Derived.Test.YtjebhipbdledfaaP66
import Derived.Test.YtjebhipbdledfaaP68
import Derived.Test.YtjebhipbdledfaaQGraphFn
import Derived.Test.YtjebhipbdledfaaQLawG
namespace Go.Proofs.Ytjebhipbdledfaa.Pure
open Go Go.RowKit Go.Proofs.Ytjebhipbdledfaa.P Go.Proofs.YtjebhipbdledfaaW.PrintWords Go.Proofs.YtjebhipbdledfaaW.PrintLast Go.Proofs.Ytjebhipbdledfaa.Q
theorem both (n : Int) (l : List Int) (hl : l.length ≤ 1048576) : ∃ m r c, r.length ≤ 1048576 ∧ Ev (fun k => spec_DigraphOf.f k n l) (m, r, c) ∧ Ev (fun k => impl_DigraphOf.f k n l) (m, r, c) := by
  by_cases hg : isG n l
  · refine ⟨n, l, 0, hl, ?_, ?_⟩
    · unfold spec_DigraphOf.f
      refine Ev.bind ((s_is n l).yes hg) (ev_pos rfl (ev_of ?_))
      unfold spec_l01Own.f
      simp only [Option.bind_some, List.length_nil, Nat.zero_add, List.nil_append]
      rw [if_pos (by omega)]
      rfl
    · unfold impl_DigraphOf.f
      refine Ev.bind ((i_is n l).yes hg) (ev_pos rfl (ev_of ?_))
      unfold slices_Clone_int64_int64.f
      rw [if_pos (by omega)]
      rfl
  · refine ⟨0, [], 1, by simp, ?_, ?_⟩
    · unfold spec_DigraphOf.f
      exact Ev.bind ((s_is n l).no hg) (ev_neg (by decide) (Ev.now _))
    · unfold impl_DigraphOf.f
      exact Ev.bind ((i_is n l).no hg) (ev_neg (by decide) (Ev.now _))
theorem FnExactDigraphOf : ∀ (a0_0 : Int) (l0_1 : List Int), (Lit.int .i64 a0_0).wf = true → l0_1.length ≤ maxLen → (∀ x ∈ l0_1, (Lit.int .i64 x).wf = true) → ∃ k, laws_FnExactDigraphOf.f k a0_0 l0_1 = some true := by
  intro n l _ hl _
  refine Ev.rounds ?_
  unfold laws_FnExactDigraphOf.f
  rw [szG n l hl]
  simp only [Option.bind_some]
  by_cases hs : l.length ≤ 1048576
  · rw [if_pos hs]
    refine ev_neg (by omega) ?_
    obtain ⟨m, r, c, hr, h1, h2⟩ := both n l hs
    refine Ev.bind (toG n l hs) (Ev.bind h1 (Ev.bind (toG n l hs) (Ev.bind h2 (Ev.bind (eqD m r hr) (ev_pos rfl ?_)))))
    refine ev_k ?_
    simp only [laws_FnExactDigraphOf.j0]
    refine ev_neg (by simp) (Ev.bind (toG n l hs) (Ev.bind (eqG n l hs) (ev_pos rfl (Ev.bind (markG n l hs) (ev_neg (by simp only []; omega) (Ev.bind (eqD m r hr) (ev_pos rfl ?_)))))))
    refine ev_k ?_
    simp only [laws_FnExactDigraphOf.j1]
    refine ev_neg (by simp) (Ev.bind (markD m r hr) (Ev.bind (heldD m r.length hr) (ev_neg (by omega) (ev_pos rfl ?_))))
    refine Ev.bind (toG n l hs) (Ev.bind h2 (Ev.bind (eqD m r hr) (ev_pos rfl ?_)))
    refine ev_k ?_
    simp only [laws_FnExactDigraphOf.j2]
    exact ev_neg (by simp) (Ev.bind (heldD m r.length hr) (ev_neg (by omega) (ev_pos rfl (Ev.now _))))
  · rw [if_neg hs]
    exact ev_pos (by decide) (Ev.now _)
end Go.Proofs.Ytjebhipbdledfaa.Pure
