-- Printed by a program of this workplace (wip/xp/xp.py) over the kit's print.
import Derived.Test.YtkmpkcofddpdgaaDoorP0
import Derived.Test.YtkmpkcofddpdgaaDoorP2
namespace Go.Proofs.YtkmpkcofddpdgaaDoor.P
open Go.RowKit Go.Proofs.YtkmpkcofddpdgaaDoorW.PrintWords Go.Proofs.YtkmpkcofddpdgaaDoorW.PrintLast Go.Proofs.YtkmpkcofddpdgaaDoorW.PrintMore
attribute [local go_sem] max2_int min2_int max_two min_two max_three min_three max_four min_four   -- for this text's walks alone
set_option linter.unusedVariables false
set_option linter.unusedSimpArgs false

/-! ### spec_l07Numbers: function 66 -/
def spec_l07Numbers.f (a0 : Int) (a1 : Int) : Option (Bool) := (spec_l01In.f a0 1 6).bind fun t588 => (if t588 = true then ((spec_l01In.f a1 3 12).bind fun t589 => (some t589)) else (some false))
set_option maxHeartbeats 8000000 in
set_option maxRecDepth 100000 in
theorem spec_l07Numbers.calls (a0 : Int) (a1 : Int) (r : Bool) (w : World) (h : spec_l07Numbers.f a0 a1 = some r) :
    Calls Tryd.prog 66 #[.int .i64 a0, .int .i64 a1] w fun e w' => e = .returned (.bool r) ∧ Drawn0 w w' := by
  (have H : ((spec_l01In.f a0 1 6).bind fun t588 => (if t588 = true then ((spec_l01In.f a1 3 12).bind fun t589 => (some t589)) else (some false))) = some r := h); clear h; (replace H := Option.bind_eq_some_iff.mp H); (obtain ⟨t588, A30, H⟩ := H); (try dsimp only at H); (have A3 := Aside0.mk A30); clear A30; (by_cases c4 : t588 = true); (· subst c4; (have H1 : ((spec_l01In.f a1 3 12).bind fun t589 => (some t589)) = some r := by rw [if_pos rfl] at H; exact H); clear H; (have H := H1); clear H1; (replace H := Option.bind_eq_some_iff.mp H); (obtain ⟨t589, A50, H⟩ := H); (try dsimp only at H); (have A5 := Aside0.mk A50); clear A50; (obtain rfl := Option.some.inj H); (go_enter Tryd.func66, Tryd.ntmps66); (go_wp2_with (first | ((with_reducible refine gate_callee (f := 51) rfl ?_); refine goesL_ (some 6) rfl rfl Tryd.func51 (by kernel_rfl) rfl #[.int .i64 a0, .int .i64 1, .int .i64 6] rfl q5 ?_; (with_reducible refine (spec_l01In.calls a0 1 6 true _ A3.out).mono ?_); rintro e w' ⟨rfl, ⟨nd, rfl⟩⟩; refine ⟨_, rfl, ?_⟩) | (go_at_call 51; (with_reducible refine (spec_l01In.calls a1 3 12 t589 _ A5.out).mono ?_); rintro e w' ⟨rfl, ⟨nd, rfl⟩⟩))); go_ret; (exact ⟨by first | rfl | (simp; done) | (simp [*]; done), by repeat (first | exact Drawn0.refl _ | apply Drawn0.step)⟩))
  · replace c4 := Bool.eq_false_iff.mpr c4
    subst c4; (have H1 : (some false) = some r := by rw [if_neg (show ¬ (false = true) by decide)] at H; exact H); clear H; (have H := H1); clear H1; (obtain rfl := Option.some.inj H); (go_enter Tryd.func66, Tryd.ntmps66); (go_wp2_with (first | ((with_reducible refine gate_callee (f := 51) rfl ?_); refine goesL_ (some 6) rfl rfl Tryd.func51 (by kernel_rfl) rfl #[.int .i64 a0, .int .i64 1, .int .i64 6] rfl q5 ?_; (with_reducible refine (spec_l01In.calls a0 1 6 false _ A3.out).mono ?_); rintro e w' ⟨rfl, ⟨nd, rfl⟩⟩; refine ⟨_, rfl, ?_⟩))); go_ret; (exact ⟨by first | rfl | (simp; done) | (simp [*]; done), by repeat (first | exact Drawn0.refl _ | apply Drawn0.step)⟩)

end Go.Proofs.YtkmpkcofddpdgaaDoor.P
