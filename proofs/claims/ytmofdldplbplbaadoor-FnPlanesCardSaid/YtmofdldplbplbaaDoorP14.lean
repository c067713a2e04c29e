-- Printed by a program of this workplace (wip/xp/xp.py) over the kit's print.
import Derived.Test.YtmofdldplbplbaaDoorP0
namespace Go.Proofs.YtmofdldplbplbaaDoor.P
open Go.RowKit Go.Proofs.YtmofdldplbplbaaDoorW.PrintWords Go.Proofs.YtmofdldplbplbaaDoorW.PrintLast Go.Proofs.YtmofdldplbplbaaDoorW.PrintMore
attribute [local go_sem] max2_int min2_int max_two min_two max_three min_three max_four min_four   -- for this text's walks alone
set_option linter.unusedVariables false
set_option linter.unusedSimpArgs false

/-! ### spec_l04Prime: function 129 -/
def spec_l04Prime.f (a0 : Int) : Option (Bool) := if a0 = 2 then (some true) else (if a0 = 3 then (some true) else (if a0 = 5 then (some true) else (some (a0 == 7))))
set_option maxHeartbeats 8000000 in
set_option maxRecDepth 100000 in
theorem spec_l04Prime.calls (a0 : Int) (r : Bool) (w : World) (h : spec_l04Prime.f a0 = some r) :
    Calls Tryd.prog 129 #[.int .i64 a0] w fun e w' => e = .returned (.bool r) ∧ Drawn0 w w' := by
  (have H : (if a0 = 2 then (some true) else (if a0 = 3 then (some true) else (if a0 = 5 then (some true) else (some (a0 == 7))))) = some r := h); clear h; (replace H := Yp H); (obtain ⟨c2, H⟩ | ⟨c2, H⟩ := H); (· (obtain ⟨c2b0, c2b1⟩ := Yv c2); clear c2; (obtain rfl := Option.some.inj H); (go_enter Tryd.func129, Tryd.ntmps129); go_wp2; go_ret; (exact ⟨by first | rfl | (simp; done) | (simp [*]; done), by repeat (first | exact Drawn0.refl _ | apply Drawn0.step)⟩))
  · obtain ⟨c2b0, c2b1⟩ := Yw c2
    (replace H := Yp H); (obtain ⟨c3, H⟩ | ⟨c3, H⟩ := H); (· (obtain ⟨c3b0, c3b1⟩ := Yv c3); clear c3; (obtain rfl := Option.some.inj H); (go_enter Tryd.func129, Tryd.ntmps129); go_wp2; go_ret; (exact ⟨by first | rfl | (simp; done) | (simp [*]; done), by repeat (first | exact Drawn0.refl _ | apply Drawn0.step)⟩))
    · obtain ⟨c3b0, c3b1⟩ := Yw c3
      (replace H := Yp H); (obtain ⟨c4, H⟩ | ⟨c4, H⟩ := H); (· (obtain ⟨c4b0, c4b1⟩ := Yv c4); clear c4; (obtain rfl := Option.some.inj H); (go_enter Tryd.func129, Tryd.ntmps129); go_wp2; go_ret; (exact ⟨by first | rfl | (simp; done) | (simp [*]; done), by repeat (first | exact Drawn0.refl _ | apply Drawn0.step)⟩))
      · obtain ⟨c4b0, c4b1⟩ := Yw c4
        (obtain rfl := Option.some.inj H); (go_enter Tryd.func129, Tryd.ntmps129); go_wp2; go_ret; (exact ⟨by first | rfl | (simp; done) | (simp [*]; done), by repeat (first | exact Drawn0.refl _ | apply Drawn0.step)⟩)

end Go.Proofs.YtmofdldplbplbaaDoor.P
