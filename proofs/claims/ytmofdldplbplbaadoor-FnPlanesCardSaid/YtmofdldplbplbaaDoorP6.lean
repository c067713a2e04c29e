-- Printed by a program of this workplace (wip/xp/xp.py) over the kit's print.
import Derived.Test.YtmofdldplbplbaaDoorP0
import Derived.Test.YtmofdldplbplbaaDoorP4
import Derived.Test.YtmofdldplbplbaaDoorP5
namespace Go.Proofs.YtmofdldplbplbaaDoor.P
open Go.RowKit Go.Proofs.YtmofdldplbplbaaDoorW.PrintWords Go.Proofs.YtmofdldplbplbaaDoorW.PrintLast Go.Proofs.YtmofdldplbplbaaDoorW.PrintMore
attribute [local go_sem] max2_int min2_int max_two min_two max_three min_three max_four min_four   -- for this text's walks alone
set_option linter.unusedVariables false
set_option linter.unusedSimpArgs false

/-! ### spec_DrawPlaneGraph: function 51 -/
def spec_DrawPlaneGraph.f (k : Nat) (l0 : List Int) : Option (Int) := (spec_l01From.f k l0).bind fun bt128 => ((spec_l04Draw.f bt128.1 bt128.2.1 bt128.2.2).bind fun bt132 => (some bt132.1))
set_option maxHeartbeats 8000000 in
set_option maxRecDepth 100000 in
theorem spec_DrawPlaneGraph.calls (k : Nat) (A0 : Option Addr) (c0 : Nat) (l0 : List Int) (r : Int) (w : World) (hr0 : Kd.C (Kd.int .u8) w A0 l0.length l0) (hc0 : l0.length ≤ c0) (h : spec_DrawPlaneGraph.f k l0 = some r) :
    Calls Tryd.prog 51 #[.slice A0 l0.length c0] w fun e w' => e = .returned (.int .i64 r) ∧ Below w.heap.size w w' := by
  (have HR0 := Aside0.mk hr0); (have HC0 := Aside0.mk hc0); clear hr0 hc0; (have HB := Aside0.mk (Below.refl w.heap.size w)); (have H : ((spec_l01From.f k l0).bind fun bt128 => ((spec_l04Draw.f bt128.1 bt128.2.1 bt128.2.2).bind fun bt132 => (some bt132.1))) = some r := h); clear h; (replace H := Yq H); (obtain ⟨⟨t128, t129, t130⟩, A2, H⟩ := H); (try dsimp only at H); (replace H := Yq H); (obtain ⟨⟨t132, t133, t134⟩, A3, H⟩ := H); (try dsimp only at H); (obtain rfl := Option.some.inj H); (go_enter Tryd.func51, Tryd.ntmps51); (go_wp2_with (first | (refine Y5 82 (some 4) Tryd.func82 #[.slice A0 l0.length c0] ?_; (with_reducible refine (spec_l01From.calls k _ _ l0 t128 t129 t130 w _ ?side1 ?side2 ?side3 A2.out).mono ?_); (case side1 => exact Ya); (case side2 => exact HR0.out); (case side3 => exact HC0.out); rintro e w4 ⟨g131, rfl, hi, hb, hb2⟩; refine ⟨_, rfl, ?_⟩; replace HB := Aside0.mk (hb); have HI131 := Aside0.mk (hi); clear hb hb2 hi) | (refine Y5 123 (some 5) Tryd.func123 #[.pointer (some ⟨g131, 0, none⟩)] ?_; (with_reducible refine (spec_l04Draw.calls g131 t128 t129 t130 t132 t133 t134 w _ ?side1 ?side2 A3.out).mono ?_); (case side1 => exact Yx126); (case side2 => exact Yz126); rintro e w5 ⟨rfl, hi, hb, hk⟩; refine ⟨_, rfl, ?_⟩; replace HB := Aside0.mk (hb); replace HI131 := Aside0.mk (hi); clear hb hk hi))); go_ret; (exact ⟨Yl, Yz126⟩)

/-! ### impl_isPrime: function 124 -/
def impl_isPrime.f (a0 : Int) : Option (Bool) := if a0 = 2 then (some true) else (if a0 = 3 then (some true) else (if a0 = 5 then (some true) else (some (a0 == 7))))
set_option maxHeartbeats 8000000 in
set_option maxRecDepth 100000 in
theorem impl_isPrime.calls (a0 : Int) (r : Bool) (w : World) (h : impl_isPrime.f a0 = some r) :
    Calls Tryd.prog 124 #[.int .i64 a0] w fun e w' => e = .returned (.bool r) ∧ Drawn0 w w' := by
  (have H : (if a0 = 2 then (some true) else (if a0 = 3 then (some true) else (if a0 = 5 then (some true) else (some (a0 == 7))))) = some r := h); clear h; (replace H := Yp H); (obtain ⟨c2, H⟩ | ⟨c2, H⟩ := H); (· (obtain ⟨c2b0, c2b1⟩ := Yv c2); clear c2; (obtain rfl := Option.some.inj H); (go_enter Tryd.func124, Tryd.ntmps124); go_wp2; go_ret; (exact ⟨by first | rfl | (simp; done) | (simp [*]; done), by repeat (first | exact Drawn0.refl _ | apply Drawn0.step)⟩))
  · obtain ⟨c2b0, c2b1⟩ := Yw c2
    (replace H := Yp H); (obtain ⟨c3, H⟩ | ⟨c3, H⟩ := H); (· (obtain ⟨c3b0, c3b1⟩ := Yv c3); clear c3; (obtain rfl := Option.some.inj H); (go_enter Tryd.func124, Tryd.ntmps124); go_wp2; go_ret; (exact ⟨by first | rfl | (simp; done) | (simp [*]; done), by repeat (first | exact Drawn0.refl _ | apply Drawn0.step)⟩))
    · obtain ⟨c3b0, c3b1⟩ := Yw c3
      (replace H := Yp H); (obtain ⟨c4, H⟩ | ⟨c4, H⟩ := H); (· (obtain ⟨c4b0, c4b1⟩ := Yv c4); clear c4; (obtain rfl := Option.some.inj H); (go_enter Tryd.func124, Tryd.ntmps124); go_wp2; go_ret; (exact ⟨by first | rfl | (simp; done) | (simp [*]; done), by repeat (first | exact Drawn0.refl _ | apply Drawn0.step)⟩))
      · obtain ⟨c4b0, c4b1⟩ := Yw c4
        (obtain rfl := Option.some.inj H); (go_enter Tryd.func124, Tryd.ntmps124); go_wp2; go_ret; (exact ⟨by first | rfl | (simp; done) | (simp [*]; done), by repeat (first | exact Drawn0.refl _ | apply Drawn0.step)⟩)

end Go.Proofs.YtmofdldplbplbaaDoor.P
