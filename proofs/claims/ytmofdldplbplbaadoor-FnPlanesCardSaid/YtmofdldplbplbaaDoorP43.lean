-- Printed by a program of this workplace (wip/xp/xp.py) over the kit's print.
import Derived.Test.YtmofdldplbplbaaDoorP0
namespace Go.Proofs.YtmofdldplbplbaaDoor.P
open Go.RowKit Go.Proofs.YtmofdldplbplbaaDoorW.PrintWords Go.Proofs.YtmofdldplbplbaaDoorW.PrintLast Go.Proofs.YtmofdldplbplbaaDoorW.PrintMore
attribute [local go_sem] max2_int min2_int max_two min_two max_three min_three max_four min_four   -- for this text's walks alone
set_option linter.unusedVariables false
set_option linter.unusedSimpArgs false

/-! ### impl_powers: function 118 -/
def impl_powers.l0 : Nat → Int → Int → Int → Int → Int → Option (Int)
  | 0, _, _, _, _, _ => none
  | k + 1, x0, x5, x6, x7, x8 => if x8 < x7 then (impl_powers.l0 k x0 (mn (wrap64 (x5 + x6)) 1000000000001) (mn (wrap64 (x6 * x0)) 1000000000001) x7 (wrap64 (x8 + 1))) else (some x5)
def impl_powers.f (k : Nat) (a0 : Int) (a1 : Int) : Option (Int) := impl_powers.l0 k a0 0 1 a1 0
set_option maxHeartbeats 8000000 in
set_option maxRecDepth 100000 in
theorem impl_powers.calls (k : Nat) (a0 : Int) (a1 : Int) (r : Int) (w : World) (h : impl_powers.f k a0 a1 = some r) :
    Calls Tryd.prog 118 #[.int .i64 a0, .int .i64 a1] w fun e w' => e = .returned (.int .i64 r) ∧ Below w.heap.size w w' := by
  (have HB := Aside0.mk (Below.refl w.heap.size w)); (have H : (impl_powers.l0 k a0 0 1 a1 0) = some r := h); clear h; (have H' := Aside0.mk H); clear H; (go_enter Tryd.func118, Tryd.ntmps118); go_wp2; (go_loopg [5, 6, 8] k (fun kq v5 v6 v8 w' => ∃ (x5_1 : Int) (x6_1 : Int) (x8_1 : Int), v5 = .int .i64 x5_1 ∧ v6 = .int .i64 x6_1 ∧ v8 = .int .i64 x8_1 ∧ Aside0 (impl_powers.l0 kq a0 x5_1 x6_1 a1 x8_1 = some r) ∧ Aside0 (kq ≤ k) ∧ Aside0 (Below w.heap.size w w'))); (case atStart => exact ⟨(0), (1), (0), Yk, Yk, Yk, H', ⟨Nat.le_refl _⟩, ⟨Ya⟩⟩)
  case round =>
    (clear H'); (obtain ⟨x5_1, x6_1, x8_1, rfl, rfl, rfl, HA, HK1, HB⟩ := hrel)
    cases gk with
    | zero => exact absurd HA.out (by simp [impl_powers.l0])
    | succ k1 =>
      (have H := HA.out); clear HA; (simp only [impl_powers.l0] at H); (replace H := Yp H); (obtain ⟨c3, H⟩ | ⟨c3, H⟩ := H); (· (have c3b0 := decide_eq_true c3); clear c3; (obtain ⟨ji4, hji4⟩ := Yt (mn (wrap64 (x5_1 + x6_1)) 1000000000001)); (try simp only [hji4] at H); (have hji4_ : (if 1000000000001 < (wrap64 (x5_1 + x6_1)) then 1000000000001 else (wrap64 (x5_1 + x6_1))) = ji4 := hji4); (obtain ⟨ji5, hji5⟩ := Yt (mn (wrap64 (x6_1 * a0)) 1000000000001)); (try simp only [hji5] at H); (have hji5_ : (if 1000000000001 < (wrap64 (x6_1 * a0)) then 1000000000001 else (wrap64 (x6_1 * a0))) = ji5 := hji5); (have H' := Aside0.mk H); clear H; go_wp2; (go_roundg k1); (case measure => have := HK1.out; omega); (case rel => exact ⟨(ji4), (ji5), (wrap64 (x8_1 + 1)), (by first | rfl | (simp; done) | (simp only [← hji4] <;> (first | rfl | simp)) | (simp [*]; done)), (by first | rfl | (simp; done) | (simp only [← hji5] <;> (first | rfl | simp)) | (simp [*]; done)), Yk, H', ⟨by have := HK1.out; omega⟩, ⟨Ya⟩⟩))
      · have c3b0 := decide_eq_false c3
        clear c3; (obtain rfl := Option.some.inj H); go_wp2; go_ret; (exact ⟨Yl, Ya⟩)

end Go.Proofs.YtmofdldplbplbaaDoor.P
