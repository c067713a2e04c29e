/- The program's OrderOf returns what the reference's returns, for every group and all arguments of the type int64; no condition. -/
import Derived.Test.YtjebhipbdledfaaP5
import Derived.Test.YtjebhipbdledfaaQGroupFn
namespace Go.Proofs.Ytjebhipbdledfaa.Pure
open Go Go.RowKit Go.Proofs.Ytjebhipbdledfaa.P Go.Proofs.YtjebhipbdledfaaW.PrintWords Go.Proofs.YtjebhipbdledfaaW.PrintLast Go.Proofs.Ytjebhipbdledfaa.Q
/-- The two loops go side by side till a power is the unit. -/
theorem orders {k p x : Int} (hg : gok k p) (x0 : 0 ≤ x) (x1 : x < gord k p) (m : Nat) (hz : gpow k p x m = 0) (hm : m ≤ 62) (d : Nat) : ∀ (j : Nat), j ≤ m → m - j = d →
    ∃ r, Ev (fun n => spec_OrderOf.l0 n x (j + 1 : Int) (gpow k p x j) k p) r ∧ Ev (fun n => impl_OrderOf.l0 n x (j + 1 : Int) (gpow k p x j) k p) r := by
  induction d with
  | zero =>
    intro j hj hd
    obtain rfl : j = m := by omega
    refine ⟨((j + 1 : Int), 0), ev_k ?_, ev_k ?_⟩
    · simp only [spec_OrderOf.l0]
      exact ev_pos hz (Ev.now _)
    · simp only [impl_OrderOf.l0]
      exact ev_pos hz (Ev.now _)
  | succ d ih =>
    intro j hj hd
    by_cases hy : gpow k p x j = 0
    · refine ⟨((j + 1 : Int), 0), ev_k ?_, ev_k ?_⟩
      · simp only [spec_OrderOf.l0]
        exact ev_pos hy (Ev.now _)
      · simp only [impl_OrderOf.l0]
        exact ev_pos hy (Ev.now _)
    · obtain ⟨r, hs, hi⟩ := ih (j + 1) (by omega) (by omega)
      obtain ⟨g0, g1⟩ := gpow_range hg x0 x1 j
      have e : wrap64 ((j : Int) + 1 + 1) = ((j + 1 : Nat) : Int) + 1 := by rw [w64 (by omega) (by omega)]; omega
      refine ⟨r, ev_k ?_, ev_k ?_⟩
      · simp only [spec_OrderOf.l0, s_times hg g0 g1 x0 x1, Option.bind_some]
        refine ev_neg hy ?_
        rw [e]
        exact hs
      · simp only [impl_OrderOf.l0, i_product hg g0 g1 x0 x1, Option.bind_some]
        refine ev_neg hy ?_
        rw [e]
        exact hi
theorem FnExactOrderOf : ∀ (a0_0 : Int) (a0_1 : Int) (a1 : Int), (Lit.int .i64 a0_0).wf = true → (Lit.int .i64 a0_1).wf = true → (Lit.int .i64 a1).wf = true → ∃ k, laws_FnExactOrderOf.f k a0_0 a0_1 a1 = some true := by
  intro k p x _ _ _
  have s := s_elems k p [x] (by simp)
  have i := i_code k p [x] (by simp)
  suffices h : ∃ r, Ev (fun n => spec_OrderOf.f n k p x) r ∧ Ev (fun n => impl_OrderOf.f n k p x) r by
    obtain ⟨r, hs, hi⟩ := h
    refine Ev.rounds ?_
    unfold laws_FnExactOrderOf.f laws_toGroup.f
    refine ev_bind0 rfl (Ev.bind hs (ev_bind0 rfl (Ev.bind hi ?_)))
    exact ev_pos rfl (ev_pos rfl (Ev.now _))
  by_cases hc : gcode k p [x] = 0
  · obtain ⟨hg, hl⟩ := gcode_zero hc
    obtain ⟨x0, x1⟩ := hl x (by simp)
    obtain ⟨m, hm, hz⟩ := gpow_zero hg x0 x1
    obtain ⟨r, hs, hi⟩ := orders hg x0 x1 m hz hm m 0 (by omega) (by omega)
    refine ⟨r, ?_, ?_⟩
    · unfold spec_OrderOf.f
      exact Ev.bind s (ev_pos hc hs)
    · unfold impl_OrderOf.f
      exact Ev.bind i (ev_pos hc hi)
  · refine ⟨(0, gcode k p [x]), ?_, ?_⟩
    · unfold spec_OrderOf.f
      exact Ev.bind s (ev_neg hc (Ev.now _))
    · unfold impl_OrderOf.f
      exact Ev.bind i (ev_neg hc (Ev.now _))
end Go.Proofs.Ytjebhipbdledfaa.Pure
