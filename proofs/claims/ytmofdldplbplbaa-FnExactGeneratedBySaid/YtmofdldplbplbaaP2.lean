-- Printed by a program of this workplace (wip/xp/xp.py) over the kit's print.
import Derived.Test.YtmofdldplbplbaaP0
namespace Go.Proofs.Ytmofdldplbplbaa.P
open Go.RowKit Go.Proofs.YtmofdldplbplbaaW.PrintWords Go.Proofs.YtmofdldplbplbaaW.PrintLast Go.Proofs.YtmofdldplbplbaaW.PrintMore
attribute [local go_sem] max2_int min2_int max_two min_two max_three min_three max_four min_four   -- for this text's walks alone
set_option linter.unusedVariables false
set_option linter.unusedSimpArgs false

/-! ### spec_l05Prime: function 46 -/
def spec_l05Prime.f (a0 : Int) : Option (Bool) := if a0 = 2 then (some true) else (if a0 = 3 then (some true) else (if a0 = 5 then (some true) else (some (a0 == 7))))
set_option maxHeartbeats 8000000 in
set_option maxRecDepth 100000 in
theorem spec_l05Prime.calls (a0 : Int) (r : Bool) (w : World) (h : spec_l05Prime.f a0 = some r) :
    Calls Try.prog 46 #[.int .i64 a0] w fun e w' => e = .returned (.bool r) ∧ Drawn0 w w' := by
  (have H : (if a0 = 2 then (some true) else (if a0 = 3 then (some true) else (if a0 = 5 then (some true) else (some (a0 == 7))))) = some r := h); clear h; (by_cases c2 : a0 = 2); (· (rw [if_pos c2] at H); (have c2b0 : (a0 == 2) = true := beq_iff_eq.mpr c2); (have c2b1 : (a0 != 2) = false := bne_eq_false_iff_eq.mpr c2); clear c2; (obtain rfl := Option.some.inj H); (go_enter Try.func46, Try.ntmps46); go_wp2; go_ret; (exact ⟨by first | rfl | (simp; done) | (simp [*]; done), by repeat (first | exact Drawn0.refl _ | apply Drawn0.step)⟩))
  · rw [if_neg c2] at H
    (have c2b0 : (a0 == 2) = false := beq_eq_false_iff_ne.mpr c2); (have c2b1 : (a0 != 2) = true := bne_iff_ne.mpr c2); (by_cases c3 : a0 = 3); (· (rw [if_pos c3] at H); (have c3b0 : (a0 == 3) = true := beq_iff_eq.mpr c3); (have c3b1 : (a0 != 3) = false := bne_eq_false_iff_eq.mpr c3); clear c3; (obtain rfl := Option.some.inj H); (go_enter Try.func46, Try.ntmps46); go_wp2; go_ret; (exact ⟨by first | rfl | (simp; done) | (simp [*]; done), by repeat (first | exact Drawn0.refl _ | apply Drawn0.step)⟩))
    · rw [if_neg c3] at H
      (have c3b0 : (a0 == 3) = false := beq_eq_false_iff_ne.mpr c3); (have c3b1 : (a0 != 3) = true := bne_iff_ne.mpr c3); (by_cases c4 : a0 = 5); (· (rw [if_pos c4] at H); (have c4b0 : (a0 == 5) = true := beq_iff_eq.mpr c4); (have c4b1 : (a0 != 5) = false := bne_eq_false_iff_eq.mpr c4); clear c4; (obtain rfl := Option.some.inj H); (go_enter Try.func46, Try.ntmps46); go_wp2; go_ret; (exact ⟨by first | rfl | (simp; done) | (simp [*]; done), by repeat (first | exact Drawn0.refl _ | apply Drawn0.step)⟩))
      · rw [if_neg c4] at H
        (have c4b0 : (a0 == 5) = false := beq_eq_false_iff_ne.mpr c4); (have c4b1 : (a0 != 5) = true := bne_iff_ne.mpr c4); (obtain rfl := Option.some.inj H); (go_enter Try.func46, Try.ntmps46); go_wp2; go_ret; (exact ⟨by first | rfl | (simp; done) | (simp [*]; done), by repeat (first | exact Drawn0.refl _ | apply Drawn0.step)⟩)

end Go.Proofs.Ytmofdldplbplbaa.P
