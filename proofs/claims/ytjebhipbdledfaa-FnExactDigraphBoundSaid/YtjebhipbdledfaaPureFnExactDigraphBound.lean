/- The program's DigraphBound returns what the reference's returns, for all arguments of the type int64; no condition. -/
import Derived.Test.YtjebhipbdledfaaPFnExactDigraphBoundx1
import Derived.Test.YtjebhipbdledfaaQCore
namespace Go.Proofs.Ytjebhipbdledfaa.Pure
open Go Go.RowKit Go.Proofs.Ytjebhipbdledfaa.PFnExactDigraphBound Go.Proofs.YtjebhipbdledfaaW.PrintWords Go.Proofs.YtjebhipbdledfaaW.PrintLast Go.Proofs.YtjebhipbdledfaaW.PrintMore Go.Proofs.Ytjebhipbdledfaa.Q

theorem mn_le (a b : Int) : mn a b ≤ b := by unfold mn; split <;> omega
theorem mn_ge {a b c : Int} (h : c ≤ a) (h' : c ≤ b) : c ≤ mn a b := by unfold mn; split <;> omega

/-- The two loops go side by side. -/
theorem sums (b n : Int) (hb0 : 0 ≤ b) (hb1 : b ≤ 62) (hn : n ≤ 61) (d : Nat) : ∀ (all now i : Int), 0 ≤ i → i ≤ n → n - i = d → 0 ≤ all → all ≤ 1000000000001 → 0 ≤ now → now ≤ 1000000000001 →
    ∃ r, Ev (fun k => spec_l02Sum.l0 k (b + 1) n all now i) r ∧ Ev (fun k => impl_powers.l0 k b all now n i) r := by
  induction d with
  | zero =>
    intro all now i h0 h1 hd _ _ _ _
    refine ⟨all, ev_k ?_, ev_k ?_⟩
    · simp only [spec_l02Sum.l0]
      exact ev_neg (by omega) (Ev.now _)
    · simp only [impl_powers.l0]
      exact ev_neg (by omega) (Ev.now _)
  | succ d ih =>
    intro all now i h0 h1 hd ha0 ha1 hn0 hn1
    have hp : 0 ≤ now * b := Int.mul_nonneg hn0 hb0
    have hq : now * b ≤ 1000000000001 * 62 := Int.mul_le_mul hn1 hb1 hb0 (by omega)
    have e1 : wrap64 (all + now) = all + now := w64 (by omega) (by omega)
    have e2 : wrap64 (now * b) = now * b := w64 (by omega) (by omega)
    have e3 : wrap64 (i + 1) = i + 1 := w64 (by omega) (by omega)
    have e4 : wrap64 (b + 1 - 1) = b := by rw [w64 (by omega) (by omega)]; omega
    obtain ⟨r, hs, hi⟩ := ih (mn (all + now) 1000000000001) (mn (now * b) 1000000000001) (i + 1) (by omega) (by omega) (by omega)
      (mn_ge (by omega) (by omega)) (mn_le _ _) (mn_ge hp (by omega)) (mn_le _ _)
    refine ⟨r, ev_k ?_, ev_k ?_⟩
    · simp only [spec_l02Sum.l0]
      refine ev_pos (by omega) ?_
      rw [e1, e4, e2, e3]
      exact hs
    · simp only [impl_powers.l0]
      refine ev_pos (by omega) ?_
      rw [e1, e2, e3]
      exact hi

theorem told (r : Int) : spec_l02Told.f r = impl_limited.f r := rfl
theorem told_some (r : Int) : ∃ p, impl_limited.f r = some p := by
  unfold impl_limited.f
  split <;> exact ⟨_, rfl⟩

theorem FnExactDigraphBound : laws_FnExactDigraphBound.Pure := by
  intro d k hd hk
  have hd := wf64 hd
  have hk := wf64 hk
  suffices h : ∃ p, Ev (fun n => spec_DigraphBound.f n d k) p ∧ Ev (fun n => impl_DigraphBound.f n d k) p by
    obtain ⟨p, hs, hi⟩ := h
    refine Ev.rounds ?_
    unfold laws_FnExactDigraphBound.f
    refine Ev.bind hs (Ev.bind hi ?_)
    exact ev_pos rfl (ev_pos rfl (Ev.now _))
  by_cases h : (1 ≤ d ∧ d ≤ 62) ∧ (1 ≤ k ∧ k ≤ 60)
  · obtain ⟨r, hs, hi⟩ := sums d (k + 1) (by omega) (by omega) (by omega) (k + 1).toNat 0 1 0 (by omega) (by omega) (by omega) (by omega) (by omega) (by omega) (by omega)
    obtain ⟨p, hp⟩ := told_some r
    have e1 : wrap64 (d + 1) = d + 1 := w64 (by omega) (by omega)
    have e2 : wrap64 (k + 1) = k + 1 := w64 (by omega) (by omega)
    refine ⟨p, ?_, ?_⟩
    · unfold spec_DigraphBound.f
      refine ev_bind0 (a := true) (by unfold spec_l01In.f; rw [if_pos (by omega), decide_eq_true (by omega)]) (ev_pos rfl ?_)
      refine ev_bind0 (a := true) (by unfold spec_l01In.f; rw [if_pos (by omega), decide_eq_true (by omega)]) ?_
      refine ev_k ?_
      simp only [spec_DigraphBound.j0]
      refine ev_neg (by decide) ?_
      rw [e1, e2]
      refine Ev.bind (a := r) (by unfold spec_l02Sum.f; exact hs) ?_
      exact ev_of (by rw [told, hp]; rfl)
    · unfold impl_DigraphBound.f
      refine ev_neg (by omega) (ev_neg (by omega) (ev_neg (by omega) ?_))
      refine ev_k ?_
      simp only [impl_DigraphBound.j0]
      refine ev_neg (by simp; omega) ?_
      rw [e2]
      refine Ev.bind (a := r) (by unfold impl_powers.f; exact hi) ?_
      exact ev_of (by rw [hp]; rfl)
  · refine ⟨(0, 2), ?_, ?_⟩
    · unfold spec_DigraphBound.f
      have hj : Ev (fun n => spec_DigraphBound.j0 n d k true) (0, 2) := by
        refine ev_k ?_
        simp only [spec_DigraphBound.j0]
        exact ev_pos trivial (Ev.now _)
      by_cases h1 : 1 ≤ d ∧ d ≤ 62
      · refine ev_bind0 (a := true) (by unfold spec_l01In.f; rw [if_pos (by omega), decide_eq_true (by omega)]) (ev_pos rfl ?_)
        refine ev_bind0 (a := false) (by unfold spec_l01In.f; split; · rw [decide_eq_false (by omega)]
                                         · rfl) ?_
        exact hj
      · refine ev_bind0 (a := false) (by unfold spec_l01In.f; split; · rw [decide_eq_false (by omega)]
                                         · rfl) (ev_neg (by decide) hj)
    · unfold impl_DigraphBound.f
      have hj : Ev (fun n => impl_DigraphBound.j0 n d k true) (0, 2) := by
        refine ev_k ?_
        simp only [impl_DigraphBound.j0]
        exact ev_pos trivial (Ev.now _)
      refine ev_ite (fun _ => hj) (fun _ => ev_ite (fun _ => hj) (fun _ => ev_ite (fun _ => hj) (fun _ => ?_)))
      rw [decide_eq_true (by omega)]
      exact hj
end Go.Proofs.Ytjebhipbdledfaa.Pure
