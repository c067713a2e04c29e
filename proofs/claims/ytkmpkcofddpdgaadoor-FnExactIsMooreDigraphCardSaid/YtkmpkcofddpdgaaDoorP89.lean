-- Printed by a program of this workplace (wip/xp/xp.py) over the kit's print.
import Derived.Test.YtkmpkcofddpdgaaDoorP0
namespace Go.Proofs.YtkmpkcofddpdgaaDoor.P
open Go.RowKit Go.Proofs.YtkmpkcofddpdgaaDoorW.PrintWords Go.Proofs.YtkmpkcofddpdgaaDoorW.PrintLast Go.Proofs.YtkmpkcofddpdgaaDoorW.PrintMore
attribute [local go_sem] max2_int min2_int max_two min_two max_three min_three max_four min_four   -- for this text's walks alone
set_option linter.unusedVariables false
set_option linter.unusedSimpArgs false

/-! ### spec_l02Sum: function 73 -/
def spec_l02Sum.l0 : Nat → Int → Int → Int → Int → Int → Option (Int)
  | 0, _, _, _, _, _ => none
  | k + 1, x0, x1, x5, x6, x7 => if x7 < x1 then (spec_l02Sum.l0 k x0 x1 (mn (wrap64 (x5 + x6)) 1000000000001) (mn (wrap64 (x6 * (wrap64 (x0 - 1)))) 1000000000001) (wrap64 (x7 + 1))) else (some x5)
def spec_l02Sum.f (k : Nat) (a0 : Int) (a1 : Int) : Option (Int) := spec_l02Sum.l0 k a0 a1 0 1 0
set_option maxHeartbeats 8000000 in
set_option maxRecDepth 100000 in
theorem spec_l02Sum.calls (k : Nat) (a0 : Int) (a1 : Int) (r : Int) (w : World) (h : spec_l02Sum.f k a0 a1 = some r) :
    Calls Tryd.prog 73 #[.int .i64 a0, .int .i64 a1] w fun e w' => e = .returned (.int .i64 r) ∧ Below w.heap.size w w' := by
  (have HB := Aside0.mk (Below.refl w.heap.size w)); (have H : (spec_l02Sum.l0 k a0 a1 0 1 0) = some r := h); clear h; (have H' := Aside0.mk H); clear H; (go_enter Tryd.func73, Tryd.ntmps73); go_wp2; (go_loopg [5, 6, 7] k (fun kq v5 v6 v7 w' => ∃ (x5_1 : Int) (x6_1 : Int) (x7_1 : Int), v5 = .int .i64 x5_1 ∧ v6 = .int .i64 x6_1 ∧ v7 = .int .i64 x7_1 ∧ Aside0 (spec_l02Sum.l0 kq a0 a1 x5_1 x6_1 x7_1 = some r) ∧ Aside0 (kq ≤ k) ∧ Aside0 (Below w.heap.size w w'))); (case atStart => exact ⟨(0), (1), (0), q6, q6, q6, H', ⟨Nat.le_refl _⟩, ⟨q1⟩⟩)
  case round =>
    (clear H'); (try clear p2); (obtain ⟨x5_1, x6_1, x7_1, rfl, rfl, rfl, HA, HK1, HB⟩ := hrel)
    cases gk with
    | zero => exact absurd HA.out (by simp [spec_l02Sum.l0])
    | succ k1 =>
      (have H := HA.out); clear HA; (simp only [spec_l02Sum.l0] at H); (by_cases c3 : x7_1 < a1); (· (rw [if_pos c3] at H); (have c3b0 : decide (x7_1 < a1) = true := decide_eq_true c3); clear c3; (obtain ⟨ji4, hji4⟩ : ∃ j_ : Int, (mn (wrap64 (x5_1 + x6_1)) 1000000000001) = j_ := ⟨_, rfl⟩); (replace H : (spec_l02Sum.l0 k1 a0 a1 ji4 (mn (wrap64 (x6_1 * (wrap64 (a0 - 1)))) 1000000000001) (wrap64 (x7_1 + 1))) = some r := by first | (rw [hji4] at H; exact H) | (simp only [hji4] at H ⊢; exact H)); (have hji4_ : (if 1000000000001 < (wrap64 (x5_1 + x6_1)) then 1000000000001 else (wrap64 (x5_1 + x6_1))) = ji4 := hji4); (obtain ⟨ji5, hji5⟩ : ∃ j_ : Int, (mn (wrap64 (x6_1 * (wrap64 (a0 - 1)))) 1000000000001) = j_ := ⟨_, rfl⟩); (replace H : (spec_l02Sum.l0 k1 a0 a1 ji4 ji5 (wrap64 (x7_1 + 1))) = some r := by first | (rw [hji5] at H; exact H) | (simp only [hji5] at H ⊢; exact H)); (have hji5_ : (if 1000000000001 < (wrap64 (x6_1 * (wrap64 (a0 - 1)))) then 1000000000001 else (wrap64 (x6_1 * (wrap64 (a0 - 1))))) = ji5 := hji5); (have H' := Aside0.mk H); clear H; go_wp2; (go_roundg k1); (case measure => have := HK1.out; omega); (case rel => exact ⟨(ji4), (ji5), (wrap64 (x7_1 + 1)), (by first | rfl | (simp; done) | (simp only [← hji4] <;> (first | rfl | simp)) | (simp [*]; done)), (by first | rfl | (simp; done) | (simp only [← hji5] <;> (first | rfl | simp)) | (simp [*]; done)), q6, H', ⟨by have := HK1.out; omega⟩, ⟨q1⟩⟩))
      · rw [if_neg c3] at H
        (have c3b0 : decide (x7_1 < a1) = false := decide_eq_false c3); clear c3; (obtain rfl := Option.some.inj H); go_wp2; go_ret; (exact ⟨by first | rfl | (simp [errW_none, errW_some] <;> rfl) | (simp [*, errW_none, errW_some] <;> rfl), q1⟩)

end Go.Proofs.YtkmpkcofddpdgaaDoor.P
