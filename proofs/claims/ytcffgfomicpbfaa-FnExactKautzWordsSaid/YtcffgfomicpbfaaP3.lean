-- Printed by a program of this workplace (wip/xp/xp.py) over the kit's print.
import Derived.Test.YtcffgfomicpbfaaP0
import Derived.Test.YtcffgfomicpbfaaP1
import Derived.Test.YtcffgfomicpbfaaP2
namespace Go.Proofs.Ytcffgfomicpbfaa.P
open Go.RowKit Go.Proofs.YtcffgfomicpbfaaW.PrintWords Go.Proofs.YtcffgfomicpbfaaW.PrintLast Go.Proofs.YtcffgfomicpbfaaW.PrintMore
attribute [local go_sem] max2_int min2_int max_two min_two max_three min_three max_four min_four   -- for this text's walks alone
set_option linter.unusedVariables false
set_option linter.unusedSimpArgs false

/-! ### spec_l08Kautz: function 44 -/
def spec_l08Kautz.j0 : Nat → Int → Int → Bool → Option (Int)
  | 0, _, _, _ => none
  | k + 1, x0, x1, x5 => if x5 = true then (some 2) else ((spec_l08Words.f k x0 x1 true).bind fun t103 => (if t103 > 62 then (some 3) else (some 0)))
def spec_l08Kautz.f (k : Nat) (a0 : Int) (a1 : Int) : Option (Int) := (spec_l01In.f a0 1 61).bind fun t101 => (if t101 = true then ((spec_l01In.f a1 1 10).bind fun t102 => (spec_l08Kautz.j0 k a0 a1 (!t102))) else (spec_l08Kautz.j0 k a0 a1 true))
set_option maxHeartbeats 8000000 in
set_option maxRecDepth 100000 in
theorem spec_l08Kautz.calls (k : Nat) (a0 : Int) (a1 : Int) (r : Int) (w : World) (h : spec_l08Kautz.f k a0 a1 = some r) :
    Calls Try.prog 44 #[.int .i64 a0, .int .i64 a1] w fun e w' => e = .returned (.int .i64 r) ∧ Below w.heap.size w w' := by
  (have HB := Aside0.mk (Below.refl w.heap.size w)); (have H : ((spec_l01In.f a0 1 61).bind fun t101 => (if t101 = true then ((spec_l01In.f a1 1 10).bind fun t102 => (spec_l08Kautz.j0 k a0 a1 (!t102))) else (spec_l08Kautz.j0 k a0 a1 true))) = some r := h); clear h; (have HC3 := Aside0.mk H); clear H; (go_enter Try.func44, Try.ntmps44); (go_upto_region 1 with (fail)); (go_cut [5] (fun v5 wc => ∃ (kq : Nat) (x5_2 : Bool), v5 = .bool x5_2 ∧ Aside0 (spec_l08Kautz.j0 kq a0 a1 x5_2 = some r) ∧ Aside0 (kq ≤ k) ∧ Aside0 (Below w.heap.size w wc)))
  case first =>
    (have H := HC3.out); clear HC3; (replace H := Option.bind_eq_some_iff.mp H); (obtain ⟨t101, A40, H⟩ := H); (try dsimp only at H); (have A4 := Aside0.mk A40); clear A40; (by_cases c5 : t101 = true); (· subst c5; (have H1 : ((spec_l01In.f a1 1 10).bind fun t102 => (spec_l08Kautz.j0 k a0 a1 (!t102))) = some r := by rw [if_pos rfl] at H; exact H); clear H; (have H := H1); clear H1; (replace H := Option.bind_eq_some_iff.mp H); (obtain ⟨t102, A60, H⟩ := H); (try dsimp only at H); (have A6 := Aside0.mk A60); clear A60; (have H' := Aside0.mk H); clear H; (go_wp2_with (first | ((with_reducible refine gate_callee (f := 40) rfl ?_); refine goesL_ (some 7) rfl rfl Try.func40 (by kernel_rfl) rfl #[.int .i64 a0, .int .i64 1, .int .i64 61] rfl q5 ?_; (with_reducible refine (spec_l01In.calls a0 1 61 true _ A4.out).mono ?_); rintro e w' ⟨rfl, ⟨nd, rfl⟩⟩; refine ⟨_, rfl, ?_⟩) | (go_at_call 40; (with_reducible refine (spec_l01In.calls a1 1 10 t102 _ A6.out).mono ?_); rintro e w' ⟨rfl, ⟨nd, rfl⟩⟩))); (go_meet); (case rel => exact ⟨_, (!t102), q6, H', ⟨by first | omega | exact Nat.le_refl _⟩, ⟨q1⟩⟩)); (· (replace c5 := Bool.eq_false_iff.mpr c5); subst c5; (have H1 : (spec_l08Kautz.j0 k a0 a1 true) = some r := by rw [if_neg (show ¬ (false = true) by decide)] at H; exact H); clear H; (have H := H1); clear H1; (have H' := Aside0.mk H); clear H; (go_wp2_with (first | ((with_reducible refine gate_callee (f := 40) rfl ?_); refine goesL_ (some 7) rfl rfl Try.func40 (by kernel_rfl) rfl #[.int .i64 a0, .int .i64 1, .int .i64 61] rfl q5 ?_; (with_reducible refine (spec_l01In.calls a0 1 61 false _ A4.out).mono ?_); rintro e w' ⟨rfl, ⟨nd, rfl⟩⟩; refine ⟨_, rfl, ?_⟩))); (go_meet); (case rel => exact ⟨_, (true), q6, H', ⟨by first | omega | exact Nat.le_refl _⟩, ⟨q1⟩⟩))
  case rest =>
    clear HC3; (try clear p2); (try clear c4); (try clear c5); (obtain ⟨kq, x5_2, rfl, HA, HJ2, HB⟩ := hcut)
    cases kq with
    | zero => exact absurd HA.out (by simp [spec_l08Kautz.j0])
    | succ kj2 =>
      (have H := HA.out); clear HA; (simp only [spec_l08Kautz.j0] at H); (by_cases c7 : x5_2 = true); (· subst c7; (have H1 : (some 2) = some r := by rw [if_pos rfl] at H; exact H); clear H; (have H := H1); clear H1; (obtain rfl := Option.some.inj H); go_wp2; go_ret; (exact ⟨by first | rfl | (simp [errW_none, errW_some] <;> rfl) | (simp [*, errW_none, errW_some] <;> rfl), q1⟩))
      · replace c7 := Bool.eq_false_iff.mpr c7
        subst c7; (have H1 : ((spec_l08Words.f kj2 a0 a1 true).bind fun t103 => (if t103 > 62 then (some 3) else (some 0))) = some r := by rw [if_neg (show ¬ (false = true) by decide)] at H; exact H); clear H; (have H := H1); clear H1; (replace H := Option.bind_eq_some_iff.mp H); (obtain ⟨t103, A80, H⟩ := H); (try dsimp only at H); (have A8 := Aside0.mk A80); clear A80; (by_cases c9 : t103 > 62); (· (rw [if_pos c9] at H); (have c9b0 : decide (62 < t103) = true := decide_eq_true c9); clear c9; (obtain rfl := Option.some.inj H); (go_wp2_with (first | ((with_reducible refine gate_callee (f := 48) rfl ?_); refine goesL_ (some 17) rfl rfl Try.func48 (by kernel_rfl) rfl #[.int .i64 a0, .int .i64 a1, .bool true] rfl q5 ?_; (with_reducible refine (spec_l08Words.calls kj2 a0 a1 true t103 _ A8.out).mono ?_); rintro e w10 ⟨rfl, hb⟩; refine ⟨_, rfl, ?_⟩; have n0_ := Aside0.mk (below_step (q1) hb); clear HB; have HB := n0_; clear n0_; (try clear hb); (try clear hb2); (try clear hk); (try clear hi)))); go_ret; (exact ⟨by first | rfl | (simp [errW_none, errW_some] <;> rfl) | (simp [*, errW_none, errW_some] <;> rfl), q1⟩))
        · rw [if_neg c9] at H
          (have c9b0 : decide (62 < t103) = false := decide_eq_false c9); clear c9; (obtain rfl := Option.some.inj H); (go_wp2_with (first | ((with_reducible refine gate_callee (f := 48) rfl ?_); refine goesL_ (some 17) rfl rfl Try.func48 (by kernel_rfl) rfl #[.int .i64 a0, .int .i64 a1, .bool true] rfl q5 ?_; (with_reducible refine (spec_l08Words.calls kj2 a0 a1 true t103 _ A8.out).mono ?_); rintro e w11 ⟨rfl, hb⟩; refine ⟨_, rfl, ?_⟩; have n0_ := Aside0.mk (below_step (q1) hb); clear HB; have HB := n0_; clear n0_; (try clear hb); (try clear hb2); (try clear hk); (try clear hi)))); go_ret; (exact ⟨by first | rfl | (simp [errW_none, errW_some] <;> rfl) | (simp [*, errW_none, errW_some] <;> rfl), q1⟩)

end Go.Proofs.Ytcffgfomicpbfaa.P
