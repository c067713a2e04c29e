-- Printed by a program of this workplace (wip/xp/xp.py) over the kit's print.
import Derived.Test.YtcffgfomicpbfaaP0
import Derived.Test.YtcffgfomicpbfaaP7
namespace Go.Proofs.Ytcffgfomicpbfaa.P
open Go.RowKit Go.Proofs.YtcffgfomicpbfaaW.PrintWords Go.Proofs.YtcffgfomicpbfaaW.PrintLast Go.Proofs.YtcffgfomicpbfaaW.PrintMore
attribute [local go_sem] max2_int min2_int max_two min_two max_three min_three max_four min_four   -- for this text's walks alone
set_option linter.unusedVariables false
set_option linter.unusedSimpArgs false

/-! ### impl_kautzCode: function 46 -/
def impl_kautzCode.j0 : Nat → Int → Int → Bool → Option (Int)
  | 0, _, _, _ => none
  | k + 1, x0, x1, x5 => if x5 = true then (some 2) else ((impl_capped.f k x0 (wrap64 (x1 - 1)) 62).bind fun t139 => (if (wrap64 ((wrap64 (x0 + 1)) * t139)) > 62 then (some 3) else (some 0)))
def impl_kautzCode.f (k : Nat) (a0 : Int) (a1 : Int) : Option (Int) := if a0 < 1 then (impl_kautzCode.j0 k a0 a1 true) else (if a0 > 61 then (impl_kautzCode.j0 k a0 a1 true) else (if a1 < 1 then (impl_kautzCode.j0 k a0 a1 true) else (impl_kautzCode.j0 k a0 a1 (decide (a1 > 10)))))
set_option maxHeartbeats 8000000 in
set_option maxRecDepth 100000 in
theorem impl_kautzCode.calls (k : Nat) (a0 : Int) (a1 : Int) (r : Int) (w : World) (h : impl_kautzCode.f k a0 a1 = some r) :
    Calls Try.prog 46 #[.int .i64 a0, .int .i64 a1] w fun e w' => e = .returned (.int .i64 r) ∧ Below w.heap.size w w' := by
  (have HB := Aside0.mk (Below.refl w.heap.size w)); (have H : (if a0 < 1 then (impl_kautzCode.j0 k a0 a1 true) else (if a0 > 61 then (impl_kautzCode.j0 k a0 a1 true) else (if a1 < 1 then (impl_kautzCode.j0 k a0 a1 true) else (impl_kautzCode.j0 k a0 a1 (decide (a1 > 10)))))) = some r := h); clear h; (have HC3 := Aside0.mk H); clear H; (go_enter Try.func46, Try.ntmps46); (go_upto_region 1 with (fail)); (go_cut [5] (fun v5 wc => ∃ (kq : Nat) (x5_2 : Bool), v5 = .bool x5_2 ∧ Aside0 (impl_kautzCode.j0 kq a0 a1 x5_2 = some r) ∧ Aside0 (kq ≤ k) ∧ Aside0 (Below w.heap.size w wc)))
  case first =>
    (have H := HC3.out); clear HC3; (by_cases c4 : a0 < 1); (· (rw [if_pos c4] at H); (have c4b0 : decide (a0 < 1) = true := decide_eq_true c4); clear c4; (first | rw [c4b0] | (simp only [i64_w, i32_w]; rw [c4b0]) | skip); (have H' := Aside0.mk H); clear H; go_wp2; (go_meet); (case rel => exact ⟨_, (true), q6, H', ⟨by first | omega | exact Nat.le_refl _⟩, ⟨q1⟩⟩)); (· (rw [if_neg c4] at H); (have c4b0 : decide (a0 < 1) = false := decide_eq_false c4); clear c4; (first | rw [c4b0] | (simp only [i64_w, i32_w]; rw [c4b0]) | skip); (by_cases c5 : a0 > 61); (· (rw [if_pos c5] at H); (have c5b0 : decide (61 < a0) = true := decide_eq_true c5); clear c5; (have H' := Aside0.mk H); clear H; go_wp2; (go_meet); (case rel => exact ⟨_, (true), q6, H', ⟨by first | omega | exact Nat.le_refl _⟩, ⟨q1⟩⟩)); (· (rw [if_neg c5] at H); (have c5b0 : decide (61 < a0) = false := decide_eq_false c5); clear c5; (by_cases c6 : a1 < 1); (· (rw [if_pos c6] at H); (have c6b0 : decide (a1 < 1) = true := decide_eq_true c6); clear c6; (have H' := Aside0.mk H); clear H; go_wp2; (go_meet); (case rel => exact ⟨_, (true), q6, H', ⟨by first | omega | exact Nat.le_refl _⟩, ⟨q1⟩⟩)); (· (rw [if_neg c6] at H); (have c6b0 : decide (a1 < 1) = false := decide_eq_false c6); clear c6; (have H' := Aside0.mk H); clear H; go_wp2; (go_meet); (case rel => exact ⟨_, (decide (a1 > 10)), q6, H', ⟨by first | omega | exact Nat.le_refl _⟩, ⟨q1⟩⟩))))
  case rest =>
    clear HC3; (try clear p2); (try clear c4); (try clear c4b0); (try clear c5); (try clear c5b0); (try clear c6); (try clear c6b0); (obtain ⟨kq, x5_2, rfl, HA, HJ2, HB⟩ := hcut)
    cases kq with
    | zero => exact absurd HA.out (by simp [impl_kautzCode.j0])
    | succ kj2 =>
      (have H := HA.out); clear HA; (simp only [impl_kautzCode.j0] at H); (by_cases c7 : x5_2 = true); (· subst c7; (have H1 : (some 2) = some r := by rw [if_pos rfl] at H; exact H); clear H; (have H := H1); clear H1; (obtain rfl := Option.some.inj H); go_wp2; go_ret; (exact ⟨by first | rfl | (simp [errW_none, errW_some] <;> rfl) | (simp [*, errW_none, errW_some] <;> rfl), q1⟩))
      · replace c7 := Bool.eq_false_iff.mpr c7
        subst c7; (have H1 : ((impl_capped.f kj2 a0 (wrap64 (a1 - 1)) 62).bind fun t139 => (if (wrap64 ((wrap64 (a0 + 1)) * t139)) > 62 then (some 3) else (some 0))) = some r := by rw [if_neg (show ¬ (false = true) by decide)] at H; exact H); clear H; (have H := H1); clear H1; (replace H := Option.bind_eq_some_iff.mp H); (obtain ⟨t139, A80, H⟩ := H); (try dsimp only at H); (have A8 := Aside0.mk A80); clear A80; (by_cases c9 : (wrap64 ((wrap64 (a0 + 1)) * t139)) > 62); (· (rw [if_pos c9] at H); (have c9b0 : decide (62 < (wrap64 ((wrap64 (a0 + 1)) * t139))) = true := decide_eq_true c9); clear c9; (obtain rfl := Option.some.inj H); (go_wp2_with (first | ((with_reducible refine gate_callee (f := 42) rfl ?_); refine goesL_ (some 26) rfl rfl Try.func42 (by kernel_rfl) rfl #[.int .i64 a0, .int .i64 (wrap64 (a1 - 1)), .int .i64 62] rfl q5 ?_; (with_reducible refine (impl_capped.calls kj2 a0 (wrap64 (a1 - 1)) 62 t139 _ A8.out).mono ?_); rintro e w10 ⟨rfl, hb⟩; refine ⟨_, rfl, ?_⟩; have n0_ := Aside0.mk (below_step (q1) hb); clear HB; have HB := n0_; clear n0_; (try clear hb); (try clear hb2); (try clear hk); (try clear hi)))); go_ret; (exact ⟨by first | rfl | (simp [errW_none, errW_some] <;> rfl) | (simp [*, errW_none, errW_some] <;> rfl), q1⟩))
        · rw [if_neg c9] at H
          (have c9b0 : decide (62 < (wrap64 ((wrap64 (a0 + 1)) * t139))) = false := decide_eq_false c9); clear c9; (obtain rfl := Option.some.inj H); (go_wp2_with (first | ((with_reducible refine gate_callee (f := 42) rfl ?_); refine goesL_ (some 26) rfl rfl Try.func42 (by kernel_rfl) rfl #[.int .i64 a0, .int .i64 (wrap64 (a1 - 1)), .int .i64 62] rfl q5 ?_; (with_reducible refine (impl_capped.calls kj2 a0 (wrap64 (a1 - 1)) 62 t139 _ A8.out).mono ?_); rintro e w11 ⟨rfl, hb⟩; refine ⟨_, rfl, ?_⟩; have n0_ := Aside0.mk (below_step (q1) hb); clear HB; have HB := n0_; clear n0_; (try clear hb); (try clear hb2); (try clear hk); (try clear hi)))); go_ret; (exact ⟨by first | rfl | (simp [errW_none, errW_some] <;> rfl) | (simp [*, errW_none, errW_some] <;> rfl), q1⟩)

end Go.Proofs.Ytcffgfomicpbfaa.P
