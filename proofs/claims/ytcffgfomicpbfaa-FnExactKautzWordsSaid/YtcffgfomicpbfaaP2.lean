-- Printed by a program of this workplace (wip/xp/xp.py) over the kit's print.
import Derived.Test.YtcffgfomicpbfaaP0
namespace Go.Proofs.Ytcffgfomicpbfaa.P
open Go.RowKit Go.Proofs.YtcffgfomicpbfaaW.PrintWords Go.Proofs.YtcffgfomicpbfaaW.PrintLast Go.Proofs.YtcffgfomicpbfaaW.PrintMore
attribute [local go_sem] max2_int min2_int max_two min_two max_three min_three max_four min_four   -- for this text's walks alone
set_option linter.unusedVariables false
set_option linter.unusedSimpArgs false

/-! ### spec_l08Words: function 48 -/
mutual
def spec_l08Words.j0 : Nat → Int → Int → Int → Option (Int)
  | 0, _, _, _ => none
  | k + 1, x0, x1, x7 => spec_l08Words.l0 k x0 x1 x7
def spec_l08Words.l0 : Nat → Int → Int → Int → Option (Int)
  | 0, _, _, _ => none
  | k + 1, x0, x1, x7 => if x1 > 1 then (spec_l08Words.l0 k x0 (wrap64 (x1 - 1)) (mn (wrap64 (x7 * x0)) 63)) else (some x7)
end
def spec_l08Words.f (k : Nat) (a0 : Int) (a1 : Int) (a2 : Bool) : Option (Int) := if a2 = true then (spec_l08Words.j0 k a0 a1 (wrap64 (a0 + 1))) else (spec_l08Words.j0 k a0 a1 a0)
set_option maxHeartbeats 8000000 in
set_option maxRecDepth 100000 in
theorem spec_l08Words.calls (k : Nat) (a0 : Int) (a1 : Int) (a2 : Bool) (r : Int) (w : World) (h : spec_l08Words.f k a0 a1 a2 = some r) :
    Calls Try.prog 48 #[.int .i64 a0, .int .i64 a1, .bool a2] w fun e w' => e = .returned (.int .i64 r) ∧ Below w.heap.size w w' := by
  (have HB := Aside0.mk (Below.refl w.heap.size w)); (have H : (if a2 = true then (spec_l08Words.j0 k a0 a1 (wrap64 (a0 + 1))) else (spec_l08Words.j0 k a0 a1 a0)) = some r := h); clear h; (have HC4 := Aside0.mk H); clear H; (go_enter Try.func48, Try.ntmps48); (go_upto_if 9 with (fail)); (go_cut [7] (fun v7 wc => ∃ (kq : Nat) (x7_3 : Int), v7 = .int .i64 x7_3 ∧ Aside0 (spec_l08Words.j0 kq a0 a1 x7_3 = some r) ∧ Aside0 (kq ≤ k) ∧ Aside0 (Below w.heap.size w wc)))
  case first =>
    (have H := HC4.out); clear HC4; (by_cases c5 : a2 = true); (· subst c5; (have H1 : (spec_l08Words.j0 k a0 a1 (wrap64 (a0 + 1))) = some r := by rw [if_pos rfl] at H; exact H); clear H; (have H := H1); clear H1; (have H' := Aside0.mk H); clear H; go_wp2; (go_meet); (case rel => exact ⟨_, (wrap64 (a0 + 1)), q6, H', ⟨by first | omega | exact Nat.le_refl _⟩, ⟨q1⟩⟩)); (· (replace c5 := Bool.eq_false_iff.mpr c5); subst c5; (have H1 : (spec_l08Words.j0 k a0 a1 a0) = some r := by rw [if_neg (show ¬ (false = true) by decide)] at H; exact H); clear H; (have H := H1); clear H1; (have H' := Aside0.mk H); clear H; go_wp2; (go_meet); (case rel => exact ⟨_, (a0), q6, H', ⟨by first | omega | exact Nat.le_refl _⟩, ⟨q1⟩⟩))
  case rest =>
    clear HC4; (try clear p2); (try clear c4); (try clear c5); (obtain ⟨kq, x7_3, rfl, HA, HJ3, HB⟩ := hcut)
    cases kq with
    | zero => exact absurd HA.out (by simp [spec_l08Words.j0])
    | succ kj3 =>
      (have H := HA.out); clear HA; (simp only [spec_l08Words.j0] at H); (have H' := Aside0.mk H); clear H; go_wp2; (go_loopg [1, 7] kj3 (fun kq v1 v7 w' => ∃ (x1_2 : Int) (x7_2 : Int), v1 = .int .i64 x1_2 ∧ v7 = .int .i64 x7_2 ∧ Aside0 (spec_l08Words.l0 kq a0 x1_2 x7_2 = some r) ∧ Aside0 (kq ≤ kj3) ∧ Aside0 (Below w.heap.size w w'))); (case atStart => exact ⟨(a1), (x7_3), q6, q6, H', ⟨Nat.le_refl _⟩, ⟨q1⟩⟩)
      case round =>
        (clear H'); (try clear p2); (try clear c4); (try clear c5); (try clear p2); (obtain ⟨x1_2, x7_2, rfl, rfl, HA, HK2, HB⟩ := hrel)
        cases gk with
        | zero => exact absurd HA.out (by simp [spec_l08Words.l0])
        | succ k2 =>
          (have H := HA.out); clear HA; (simp only [spec_l08Words.l0] at H); (by_cases c6 : x1_2 > 1); (· (rw [if_pos c6] at H); (have c6b0 : decide (1 < x1_2) = true := decide_eq_true c6); clear c6; (obtain ⟨ji7, hji7⟩ : ∃ j_ : Int, (mn (wrap64 (x7_2 * a0)) 63) = j_ := ⟨_, rfl⟩); (replace H : (spec_l08Words.l0 k2 a0 (wrap64 (x1_2 - 1)) ji7) = some r := by first | (rw [hji7] at H; exact H) | (simp only [hji7] at H ⊢; exact H)); (have hji7_ : (if 63 < (wrap64 (x7_2 * a0)) then 63 else (wrap64 (x7_2 * a0))) = ji7 := hji7); (have H' := Aside0.mk H); clear H; go_wp2; (go_roundg k2); (case measure => have := HJ3.out; have := HK2.out; omega); (case rel => exact ⟨(wrap64 (x1_2 - 1)), (ji7), q6, (by first | rfl | (simp; done) | (simp only [← hji7] <;> (first | rfl | simp)) | (simp [*]; done)), H', ⟨by have := HJ3.out; have := HK2.out; omega⟩, ⟨q1⟩⟩))
          · rw [if_neg c6] at H
            (have c6b0 : decide (1 < x1_2) = false := decide_eq_false c6); clear c6; (obtain rfl := Option.some.inj H); go_wp2; go_ret; (exact ⟨by first | rfl | (simp [errW_none, errW_some] <;> rfl) | (simp [*, errW_none, errW_some] <;> rfl), q1⟩)

end Go.Proofs.Ytcffgfomicpbfaa.P
