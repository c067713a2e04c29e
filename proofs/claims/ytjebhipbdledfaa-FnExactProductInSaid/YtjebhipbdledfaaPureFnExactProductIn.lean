/- The program's ProductIn returns what the reference's returns, for every group and all arguments of the type int64; no condition. -/
import Derived.Test.YtjebhipbdledfaaP5
import Derived.Test.YtjebhipbdledfaaQGroupFn
namespace Go.Proofs.Ytjebhipbdledfaa.Pure
open Go Go.RowKit Go.Proofs.Ytjebhipbdledfaa.P Go.Proofs.YtjebhipbdledfaaW.PrintWords Go.Proofs.YtjebhipbdledfaaW.PrintLast Go.Proofs.Ytjebhipbdledfaa.Q
theorem FnExactProductIn : ∀ (a0_0 : Int) (a0_1 : Int) (a1 : Int) (a2 : Int), (Lit.int .i64 a0_0).wf = true → (Lit.int .i64 a0_1).wf = true → (Lit.int .i64 a1).wf = true → (Lit.int .i64 a2).wf = true → ∃ k, laws_FnExactProductIn.f k a0_0 a0_1 a1 a2 = some true := by
  intro k p x y _ _ _ _
  have s := s_elems k p [x, y] (by simp)
  have i := i_code k p [x, y] (by simp)
  suffices h : ∃ r, Ev (fun n => spec_ProductIn.f n k p x y) r ∧ Ev (fun n => impl_ProductIn.f n k p x y) r by
    obtain ⟨r, hs, hi⟩ := h
    refine Ev.rounds ?_
    unfold laws_FnExactProductIn.f laws_toGroup.f
    refine ev_bind0 rfl (Ev.bind hs (ev_bind0 rfl (Ev.bind hi ?_)))
    exact ev_pos rfl (ev_pos rfl (Ev.now _))
  by_cases hc : gcode k p [x, y] = 0
  · obtain ⟨hg, hl⟩ := gcode_zero hc
    obtain ⟨x0, x1⟩ := hl x (by simp)
    obtain ⟨y0, y1⟩ := hl y (by simp)
    refine ⟨(gmul k p x y, 0), ?_, ?_⟩
    · unfold spec_ProductIn.f
      refine Ev.bind s (ev_pos hc ?_)
      rw [s_times hg x0 x1 y0 y1]
      exact Ev.now _
    · unfold impl_ProductIn.f
      refine Ev.bind i (ev_pos hc ?_)
      rw [i_product hg x0 x1 y0 y1]
      exact Ev.now _
  · refine ⟨(0, gcode k p [x, y]), ?_, ?_⟩
    · unfold spec_ProductIn.f
      exact Ev.bind s (ev_neg hc (Ev.now _))
    · unfold impl_ProductIn.f
      exact Ev.bind i (ev_neg hc (Ev.now _))
end Go.Proofs.Ytjebhipbdledfaa.Pure
