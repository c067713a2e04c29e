/- The program's InverseIn returns what the reference's returns, for every group and all arguments of the type int64; no condition. -/
import Derived.Test.YtjebhipbdledfaaP6
import Derived.Test.YtjebhipbdledfaaQGroupFn
import Derived.Test.YtjebhipbdledfaaQGroupInv
namespace Go.Proofs.Ytjebhipbdledfaa.Pure
open Go Go.RowKit Go.Proofs.Ytjebhipbdledfaa.P Go.Proofs.YtjebhipbdledfaaW.PrintWords Go.Proofs.YtjebhipbdledfaaW.PrintLast Go.Proofs.Ytjebhipbdledfaa.Q
theorem FnExactInverseIn : ∀ (a0_0 : Int) (a0_1 : Int) (a1 : Int), (Lit.int .i64 a0_0).wf = true → (Lit.int .i64 a0_1).wf = true → (Lit.int .i64 a1).wf = true → ∃ k, laws_FnExactInverseIn.f k a0_0 a0_1 a1 = some true := by
  intro k p x _ _ _
  have s := s_elems k p [x] (by simp)
  have i := i_code k p [x] (by simp)
  suffices h : ∃ r, Ev (fun n => spec_InverseIn.f n k p x) r ∧ Ev (fun n => impl_InverseIn.f n k p x) r by
    obtain ⟨r, hs, hi⟩ := h
    refine Ev.rounds ?_
    unfold laws_FnExactInverseIn.f laws_toGroup.f
    refine ev_bind0 rfl (Ev.bind hs (ev_bind0 rfl (Ev.bind hi ?_)))
    exact ev_pos rfl (ev_pos rfl (Ev.now _))
  by_cases hc : gcode k p [x] = 0
  · obtain ⟨hg, hl⟩ := gcode_zero hc
    obtain ⟨x0, x1⟩ := hl x (by simp)
    obtain ⟨y, _, _, _, hs, hi⟩ := inverses hg x0 x1
    refine ⟨(y, 0), ?_, ?_⟩
    · unfold spec_InverseIn.f
      exact Ev.bind s (ev_pos hc (Ev.bind hs (Ev.now _)))
    · unfold impl_InverseIn.f
      exact Ev.bind i (ev_pos hc (Ev.bind hi (Ev.now _)))
  · refine ⟨(0, gcode k p [x]), ?_, ?_⟩
    · unfold spec_InverseIn.f
      exact Ev.bind s (ev_neg hc (Ev.now _))
    · unfold impl_InverseIn.f
      exact Ev.bind i (ev_neg hc (Ev.now _))
end Go.Proofs.Ytjebhipbdledfaa.Pure
