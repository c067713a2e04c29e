/- The code of a graph and vertices, as both find it. -/
import Derived.Test.YtobkdanoipociaaDoorP17
import Derived.Test.YtobkdanoipociaaDoorP21
import Derived.Test.YtobkdanoipociaaDoorQGraphFn
namespace Go.Proofs.YtobkdanoipociaaDoor.Q
open Go Go.RowKit Go.Proofs.YtobkdanoipociaaDoor.P Go.Proofs.YtobkdanoipociaaDoorW.PrintWords Go.Proofs.YtobkdanoipociaaDoorW.PrintMore
theorem dropcons' (l : List Int) (i : Int) (h0 : 0 ≤ i) (h1 : i < l.length) : l.drop i.toNat = rd l i :: l.drop (i + 1).toNat := by
  rw [List.drop_eq_getElem_cons (by omega : i.toNat < l.length), show (i + 1).toNat = i.toNat + 1 by omega]
  simp [rd, List.getD_eq_getElem?_getD, List.getElem?_eq_getElem (show i.toNat < l.length by omega)]
/-- Both codes: no graph: 1; a number that is no vertex: 2. -/
theorem codes (n : Int) (l vs : List Int) (hl : vs.length < 9223372036854775807) : ∃ c, Ev (fun k => spec_l02Code.f k n l vs) c ∧ Ev (fun k => impl_graphCode.f k n l vs) c ∧ (c = 0 ↔ isG n l ∧ ∀ x ∈ vs, 0 ≤ x ∧ x < n) := by
  by_cases hg : isG n l
  · have n2 := hg.1.2.1
    have n1 := hg.1.1
    have loop : ∀ (d : Nat) (i : Int), 0 ≤ i → i ≤ vs.length → vs.length - i = d → ∃ c, Ev (fun k => spec_l02Code.l0 k vs i n l) c ∧ Ev (fun k => impl_graphCode.l0 k vs vs.length i n l) c ∧ (c = 0 ↔ ∀ x ∈ vs.drop i.toNat, 0 ≤ x ∧ x < n) := by
      intro d
      induction d with
      | zero =>
        intro i i0 i1 hd
        refine ⟨0, ev_k ?_, ev_k ?_, by rw [List.drop_of_length_le (by omega)]; simp⟩
        · simp only [spec_l02Code.l0]
          exact ev_neg (by omega) (Ev.now _)
        · simp only [impl_graphCode.l0]
          exact ev_neg (by omega) (Ev.now _)
      | succ d ih =>
        intro i i0 i1 hd
        obtain ⟨c, hs, hi, hc⟩ := ih (i + 1) (by omega) (by omega) (by omega)
        rw [dropcons' vs i i0 (by omega)]
        by_cases hv : 0 ≤ rd vs i ∧ rd vs i < n
        · refine ⟨c, ev_k ?_, ev_k ?_, hc.trans ?_⟩
          · simp only [spec_l02Code.l0, s_in, Option.bind_some]
            rw [w64 (a := n - 1) (by omega) (by omega), w64 (a := i + 1) (by omega) (by omega)]
            exact ev_pos (by omega) (ev_pos i0 (ev_pos (decide_eq_true (by omega)) hs))
          · simp only [impl_graphCode.l0]
            rw [w64 (a := i + 1) (by omega) (by omega)]
            exact ev_pos (by omega) (ev_pos i0 (ev_pos (by omega) (ev_neg (by omega) (ev_neg (by omega) hi))))
          · rw [List.forall_mem_cons]
            exact ⟨fun z => ⟨hv, z⟩, fun z => z.2⟩
        · refine ⟨2, ev_k ?_, ev_k ?_, ?_⟩
          · simp only [spec_l02Code.l0, s_in, Option.bind_some]
            rw [w64 (a := n - 1) (by omega) (by omega)]
            exact ev_pos (by omega) (ev_pos i0 (ev_neg (by simp; omega) (Ev.now _)))
          · simp only [impl_graphCode.l0]
            refine ev_pos (by omega) (ev_pos i0 (ev_pos (by omega) ?_))
            by_cases h : rd vs i < 0
            · exact ev_pos h (Ev.now _)
            · exact ev_neg h (ev_pos (by omega) (Ev.now _))
          · rw [List.forall_mem_cons]
            exact ⟨fun z => by omega, fun z => absurd z.1 hv⟩
    obtain ⟨c, hs, hi, hc⟩ := loop vs.length 0 (by omega) (by omega) (by omega)
    refine ⟨c, ?_, ?_, by rw [hc]; simp [hg]⟩
    · unfold spec_l02Code.f
      exact Ev.bind ((s_is n l).yes hg) (ev_pos rfl hs)
    · unfold impl_graphCode.f
      exact Ev.bind ((i_is n l).yes hg) (ev_pos rfl hi)
  · refine ⟨1, ?_, ?_, by simp [hg]⟩
    · unfold spec_l02Code.f
      exact Ev.bind ((s_is n l).no hg) (ev_neg (by decide) (Ev.now _))
    · unfold impl_graphCode.f
      exact Ev.bind ((i_is n l).no hg) (ev_neg (by decide) (Ev.now _))
end Go.Proofs.YtobkdanoipociaaDoor.Q
