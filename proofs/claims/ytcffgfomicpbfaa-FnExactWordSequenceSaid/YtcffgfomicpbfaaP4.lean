-- Printed by a program of this workplace (wip/xp/xp.py) over the kit's print.
import Derived.Test.YtcffgfomicpbfaaP0
namespace Go.Proofs.Ytcffgfomicpbfaa.P
open Go.RowKit Go.Proofs.YtcffgfomicpbfaaW.PrintWords Go.Proofs.YtcffgfomicpbfaaW.PrintLast Go.Proofs.YtcffgfomicpbfaaW.PrintMore
attribute [local go_sem] max2_int min2_int max_two min_two max_three min_three max_four min_four   -- for this text's walks alone
set_option linter.unusedVariables false
set_option linter.unusedSimpArgs false

/-! ### impl_capped: function 42 -/
def impl_capped.l0 : Nat → Int → Int → Int → Int → Int → Option (Int)
  | 0, _, _, _, _, _ => none
  | k + 1, x0, x2, x7, x8, x9 => if x9 < x8 then (impl_capped.l0 k x0 x2 (mn (wrap64 (x7 * x0)) (wrap64 (x2 + 1))) x8 (wrap64 (x9 + 1))) else (some x7)
def impl_capped.f (k : Nat) (a0 : Int) (a1 : Int) (a2 : Int) : Option (Int) := impl_capped.l0 k a0 a2 1 a1 0
set_option maxHeartbeats 8000000 in
set_option maxRecDepth 100000 in
theorem impl_capped.calls (k : Nat) (a0 : Int) (a1 : Int) (a2 : Int) (r : Int) (w : World) (h : impl_capped.f k a0 a1 a2 = some r) :
    Calls Try.prog 42 #[.int .i64 a0, .int .i64 a1, .int .i64 a2] w fun e w' => e = .returned (.int .i64 r) ∧ Below w.heap.size w w' := by
  (have HB := Aside0.mk (Below.refl w.heap.size w)); (have H : (impl_capped.l0 k a0 a2 1 a1 0) = some r := h); clear h; (have H' := Aside0.mk H); clear H; (go_enter Try.func42, Try.ntmps42); go_wp2; (go_loopg [7, 9] k (fun kq v7 v9 w' => ∃ (x7_1 : Int) (x9_1 : Int), v7 = .int .i64 x7_1 ∧ v9 = .int .i64 x9_1 ∧ Aside0 (impl_capped.l0 kq a0 a2 x7_1 a1 x9_1 = some r) ∧ Aside0 (kq ≤ k) ∧ Aside0 (Below w.heap.size w w'))); (case atStart => exact ⟨(1), (0), q6, q6, H', ⟨Nat.le_refl _⟩, ⟨q1⟩⟩)
  case round =>
    (clear H'); (try clear p2); (obtain ⟨x7_1, x9_1, rfl, rfl, HA, HK1, HB⟩ := hrel)
    cases gk with
    | zero => exact absurd HA.out (by simp [impl_capped.l0])
    | succ k1 =>
      (have H := HA.out); clear HA; (simp only [impl_capped.l0] at H); (by_cases c4 : x9_1 < a1); (· (rw [if_pos c4] at H); (have c4b0 : decide (x9_1 < a1) = true := decide_eq_true c4); clear c4; (obtain ⟨ji5, hji5⟩ : ∃ j_ : Int, (mn (wrap64 (x7_1 * a0)) (wrap64 (a2 + 1))) = j_ := ⟨_, rfl⟩); (replace H : (impl_capped.l0 k1 a0 a2 ji5 a1 (wrap64 (x9_1 + 1))) = some r := by first | (rw [hji5] at H; exact H) | (simp only [hji5] at H ⊢; exact H)); (have hji5_ : (if (wrap64 (a2 + 1)) < (wrap64 (x7_1 * a0)) then (wrap64 (a2 + 1)) else (wrap64 (x7_1 * a0))) = ji5 := hji5); (have H' := Aside0.mk H); clear H; go_wp2; (go_roundg k1); (case measure => have := HK1.out; omega); (case rel => exact ⟨(ji5), (wrap64 (x9_1 + 1)), (by first | rfl | (simp; done) | (simp only [← hji5] <;> (first | rfl | simp)) | (simp [*]; done)), q6, H', ⟨by have := HK1.out; omega⟩, ⟨q1⟩⟩))
      · rw [if_neg c4] at H
        (have c4b0 : decide (x9_1 < a1) = false := decide_eq_false c4); clear c4; (obtain rfl := Option.some.inj H); go_wp2; go_ret; (exact ⟨by first | rfl | (simp [errW_none, errW_some] <;> rfl) | (simp [*, errW_none, errW_some] <;> rfl), q1⟩)

end Go.Proofs.Ytcffgfomicpbfaa.P
