-- Printed by a program of this workplace (wip/xp/xp.py) over the kit's print.
import Derived.Test.YtcffgfomicpbfaaP0
import Derived.Test.YtcffgfomicpbfaaP1
import Derived.Test.YtcffgfomicpbfaaP2
namespace Go.Proofs.Ytcffgfomicpbfaa.P
open Go.RowKit Go.Proofs.YtcffgfomicpbfaaW.PrintWords Go.Proofs.YtcffgfomicpbfaaW.PrintLast Go.Proofs.YtcffgfomicpbfaaW.PrintMore
attribute [local go_sem] max2_int min2_int max_two min_two max_three min_three max_four min_four   -- for this text's walks alone
set_option linter.unusedVariables false
set_option linter.unusedSimpArgs false

/-! ### spec_WordSequence: function 10 -/
mutual
def spec_WordSequence.j0 : Nat → Int → Int → Bool → Option (List Int × Int)
  | 0, _, _, _ => none
  | k + 1, x0, x1, x15 => if x15 = true then (some (([] : List Int), 2)) else (spec_WordSequence.l0 k x0 x1 1 0)
def spec_WordSequence.l0 : Nat → Int → Int → Int → Int → Option (List Int × Int)
  | 0, _, _, _, _ => none
  | k + 1, x0, x1, x6, x7 => if x7 < x1 then (spec_WordSequence.l0 k x0 x1 (mn (wrap64 (x6 * x0)) 1025) (wrap64 (x7 + 1))) else (if x6 > 1024 then (some (([] : List Int), 3)) else ((spec_l08Sequence.f k x0 x1).bind fun t125 => (some (t125, 0))))
end
def spec_WordSequence.f (k : Nat) (a0 : Int) (a1 : Int) : Option (List Int × Int) := (spec_l01In.f a0 1 10).bind fun t123 => (if t123 = true then ((spec_l01In.f a1 1 10).bind fun t124 => (spec_WordSequence.j0 k a0 a1 (!t124))) else (spec_WordSequence.j0 k a0 a1 true))
set_option maxHeartbeats 8000000 in
set_option maxRecDepth 100000 in
theorem spec_WordSequence.calls (k : Nat) (a0 : Int) (a1 : Int) (r1 : List Int) (r2 : Int) (w : World) (h : spec_WordSequence.f k a0 a1 = some (r1, r2)) :
    Calls Try.prog 10 #[.int .i64 a0, .int .i64 a1] w fun e w' => ∃ v0_ : Value, e = .returned (.tuple #[v0_, .int .i64 r2]) ∧ Kd.R (Kd.int .i64) 2 w' w.heap.size (fun _ => True) v0_ r1 ∧ Below w.heap.size w w' := by
  (have HB := Aside0.mk (Below.refl w.heap.size w)); (have H : ((spec_l01In.f a0 1 10).bind fun t123 => (if t123 = true then ((spec_l01In.f a1 1 10).bind fun t124 => (spec_WordSequence.j0 k a0 a1 (!t124))) else (spec_WordSequence.j0 k a0 a1 true))) = some (r1, r2) := h); clear h; (have HC3 := Aside0.mk H); clear H; (go_enter Try.func10, Try.ntmps10); (go_upto_region 1 with (fail)); (go_cut [15] (fun v15 wc => ∃ (kq : Nat) (x15_2 : Bool), v15 = .bool x15_2 ∧ Aside0 (spec_WordSequence.j0 kq a0 a1 x15_2 = some (r1, r2)) ∧ Aside0 (kq ≤ k) ∧ Aside0 (Below w.heap.size w wc)))
  case first =>
    (have H := HC3.out); clear HC3; (replace H := Option.bind_eq_some_iff.mp H); (obtain ⟨t123, A40, H⟩ := H); (try dsimp only at H); (have A4 := Aside0.mk A40); clear A40; (by_cases c5 : t123 = true); (· subst c5; (have H1 : ((spec_l01In.f a1 1 10).bind fun t124 => (spec_WordSequence.j0 k a0 a1 (!t124))) = some (r1, r2) := by rw [if_pos rfl] at H; exact H); clear H; (have H := H1); clear H1; (replace H := Option.bind_eq_some_iff.mp H); (obtain ⟨t124, A60, H⟩ := H); (try dsimp only at H); (have A6 := Aside0.mk A60); clear A60; (have H' := Aside0.mk H); clear H; (go_wp2_with (first | ((with_reducible refine gate_callee (f := 40) rfl ?_); refine goesL_ (some 9) rfl rfl Try.func40 (by kernel_rfl) rfl #[.int .i64 a0, .int .i64 1, .int .i64 10] rfl q5 ?_; (with_reducible refine (spec_l01In.calls a0 1 10 true _ A4.out).mono ?_); rintro e w' ⟨rfl, ⟨nd, rfl⟩⟩; refine ⟨_, rfl, ?_⟩) | (go_at_call 40; (with_reducible refine (spec_l01In.calls a1 1 10 t124 _ A6.out).mono ?_); rintro e w' ⟨rfl, ⟨nd, rfl⟩⟩))); (go_meet); (case rel => exact ⟨_, (!t124), q6, H', ⟨by first | omega | exact Nat.le_refl _⟩, ⟨q1⟩⟩)); (· (replace c5 := Bool.eq_false_iff.mpr c5); subst c5; (have H1 : (spec_WordSequence.j0 k a0 a1 true) = some (r1, r2) := by rw [if_neg (show ¬ (false = true) by decide)] at H; exact H); clear H; (have H := H1); clear H1; (have H' := Aside0.mk H); clear H; (go_wp2_with (first | ((with_reducible refine gate_callee (f := 40) rfl ?_); refine goesL_ (some 9) rfl rfl Try.func40 (by kernel_rfl) rfl #[.int .i64 a0, .int .i64 1, .int .i64 10] rfl q5 ?_; (with_reducible refine (spec_l01In.calls a0 1 10 false _ A4.out).mono ?_); rintro e w' ⟨rfl, ⟨nd, rfl⟩⟩; refine ⟨_, rfl, ?_⟩))); (go_meet); (case rel => exact ⟨_, (true), q6, H', ⟨by first | omega | exact Nat.le_refl _⟩, ⟨q1⟩⟩))
  case rest =>
    clear HC3; (try clear c1); (try clear p2); (try clear c4); (try clear c5); (obtain ⟨kq, x15_2, rfl, HA, HJ2, HB⟩ := hcut)
    cases kq with
    | zero => exact absurd HA.out (by simp [spec_WordSequence.j0])
    | succ kj2 =>
      (have H := HA.out); clear HA; (simp only [spec_WordSequence.j0] at H); (by_cases c7 : x15_2 = true); (· subst c7; (have H1 : (some (([] : List Int), 2)) = some (r1, r2) := by rw [if_pos rfl] at H; exact H); clear H; (have H := H1); clear H1; (simp only [Option.some.injEq, Prod.mk.injEq] at H); (obtain ⟨rfl, rfl⟩ := H); go_wp2; (go_ret2); (exact ⟨_, by first | rfl | (simp [errW_none, errW_some] <;> rfl) | (simp [*, errW_none, errW_some] <;> rfl), by first | exact Kd.R_nil _ _ _ _ _ | exact Kd.N_nil _ _ _ _ _ | exact Kd.V_nil _ _ _ _ _ | exact Kd.Q_nil _ _ _ _ _ | exact Kd.S_nil _ _ _ _ _, q1⟩))
      · replace c7 := Bool.eq_false_iff.mpr c7
        subst c7; (have H1 : (spec_WordSequence.l0 kj2 a0 a1 1 0) = some (r1, r2) := by rw [if_neg (show ¬ (false = true) by decide)] at H; exact H); clear H; (have H := H1); clear H1; (have H' := Aside0.mk H); clear H; go_wp2; (go_loopg [6, 7] kj2 (fun kq v6 v7 w' => ∃ (x6_2 : Int) (x7_2 : Int), v6 = .int .i64 x6_2 ∧ v7 = .int .i64 x7_2 ∧ Aside0 (spec_WordSequence.l0 kq a0 a1 x6_2 x7_2 = some (r1, r2)) ∧ Aside0 (kq ≤ kj2) ∧ Aside0 (Below w.heap.size w w'))); (case atStart => exact ⟨(1), (0), q6, q6, H', ⟨Nat.le_refl _⟩, ⟨q1⟩⟩)
        case round =>
          (clear H'); (try clear c1); (try clear p2); (try clear c4); (try clear c5); (try clear c7); (try clear p2); (obtain ⟨x6_2, x7_2, rfl, rfl, HA, HK2, HB⟩ := hrel)
          cases gk with
          | zero => exact absurd HA.out (by simp [spec_WordSequence.l0])
          | succ k2 =>
            (have H := HA.out); clear HA; (simp only [spec_WordSequence.l0] at H); (by_cases c8 : x7_2 < a1); (· (rw [if_pos c8] at H); (have c8b0 : decide (x7_2 < a1) = true := decide_eq_true c8); clear c8; (obtain ⟨ji9, hji9⟩ : ∃ j_ : Int, (mn (wrap64 (x6_2 * a0)) 1025) = j_ := ⟨_, rfl⟩); (replace H : (spec_WordSequence.l0 k2 a0 a1 ji9 (wrap64 (x7_2 + 1))) = some (r1, r2) := by first | (rw [hji9] at H; exact H) | (simp only [hji9] at H ⊢; exact H)); (have hji9_ : (if 1025 < (wrap64 (x6_2 * a0)) then 1025 else (wrap64 (x6_2 * a0))) = ji9 := hji9); (have H' := Aside0.mk H); clear H; go_wp2; (go_roundg k2); (case measure => have := HJ2.out; have := HK2.out; omega); (case rel => exact ⟨(ji9), (wrap64 (x7_2 + 1)), (by first | rfl | (simp; done) | (simp only [← hji9] <;> (first | rfl | simp)) | (simp [*]; done)), q6, H', ⟨by have := HJ2.out; have := HK2.out; omega⟩, ⟨q1⟩⟩))
            · rw [if_neg c8] at H
              (have c8b0 : decide (x7_2 < a1) = false := decide_eq_false c8); clear c8; (by_cases c10 : x6_2 > 1024); (· (rw [if_pos c10] at H); (have c10b0 : decide (1024 < x6_2) = true := decide_eq_true c10); clear c10; (simp only [Option.some.injEq, Prod.mk.injEq] at H); (obtain ⟨rfl, rfl⟩ := H); go_wp2; (go_ret2); (exact ⟨_, by first | rfl | (simp [errW_none, errW_some] <;> rfl) | (simp [*, errW_none, errW_some] <;> rfl), by first | exact Kd.R_nil _ _ _ _ _ | exact Kd.N_nil _ _ _ _ _ | exact Kd.V_nil _ _ _ _ _ | exact Kd.Q_nil _ _ _ _ _ | exact Kd.S_nil _ _ _ _ _, q1⟩))
              · rw [if_neg c10] at H
                (have c10b0 : decide (1024 < x6_2) = false := decide_eq_false c10); clear c10; (replace H := Option.bind_eq_some_iff.mp H); (obtain ⟨t125, A110, H⟩ := H); (try dsimp only at H); (have A11 := Aside0.mk A110); clear A110; (simp only [Option.some.injEq, Prod.mk.injEq] at H); (obtain ⟨rfl, rfl⟩ := H); (go_wp2_with (first | ((with_reducible refine gate_callee (f := 41) rfl ?_); refine goesL_ (some 29) rfl rfl Try.func41 (by kernel_rfl) rfl #[.int .i64 a0, .int .i64 a1] rfl q5 ?_; (with_reducible refine (spec_l08Sequence.calls k2 a0 a1 t125 _ A11.out).mono ?_); rintro e w12 ⟨v126, rfl, ho0, hb⟩; refine ⟨_, rfl, ?_⟩; have n0_ := Aside0.mk (Kd.R_lower ho0 (below_size (q1))); have n1_ := Aside0.mk (below_step (q1) hb); clear HB; have HO127 := n0_; have HB := n1_; clear n0_ n1_; (try clear hb); (try clear hb2); (try clear hk); (try clear hi); (try clear ho0)))); (go_ret2); (exact ⟨_, by first | rfl | (simp [errW_none, errW_some] <;> rfl) | (simp [*, errW_none, errW_some] <;> rfl), by (with_reducible repeat (first | apply Kd.R_alloc | apply Kd.R_drewN | apply Kd.R_drew)); exact HO127.out, q1⟩)

end Go.Proofs.Ytcffgfomicpbfaa.P
