-- Printed by a program of this workplace (wip/xp/xp.py) over the kit's print.
import Derived.Test.YtmofdldplbplbaaDoorP0
import Derived.Test.YtmofdldplbplbaaDoorP14
import Derived.Test.YtmofdldplbplbaaDoorP15
namespace Go.Proofs.YtmofdldplbplbaaDoor.P
open Go.RowKit Go.Proofs.YtmofdldplbplbaaDoorW.PrintWords Go.Proofs.YtmofdldplbplbaaDoorW.PrintLast Go.Proofs.YtmofdldplbplbaaDoorW.PrintMore
attribute [local go_sem] max2_int min2_int max_two min_two max_three min_three max_four min_four   -- for this text's walks alone
set_option linter.unusedVariables false
set_option linter.unusedSimpArgs false

/-! ### spec_PlanePoints: function 56 -/
def spec_PlanePoints.f (k : Nat) (a0 : Int) : Option ((List (List Int)) × Int) := (spec_l04Prime.f a0).bind fun t229 => (if t229 = true then ((spec_l04Points.f k a0).bind fun t230 => (some (t230, 0))) else (some (([] : List (List Int)), 2)))
set_option maxHeartbeats 8000000 in
set_option maxRecDepth 100000 in
theorem spec_PlanePoints.calls (k : Nat) (a0 : Int) (r1 : List (List Int)) (r2 : Int) (w : World) (h : spec_PlanePoints.f k a0 = some (r1, r2)) :
    Calls Tryd.prog 56 #[.int .i64 a0] w fun e w' => ∃ v0_ : Value, e = .returned (.tuple #[v0_, .int .i64 r2]) ∧ Kd.N (Kd.slice 2 (Kd.int .i64)) 24 w' w.heap.size (fun k_ => (w.heap.size ≤ k_)) v0_ r1 ∧ Below w.heap.size w w' := by
  (have HB := Aside0.mk (Below.refl w.heap.size w)); (have H : ((spec_l04Prime.f a0).bind fun t229 => (if t229 = true then ((spec_l04Points.f k a0).bind fun t230 => (some (t230, 0))) else (some (([] : List (List Int)), 2)))) = some (r1, r2) := h); clear h; (replace H := Yq H); (obtain ⟨t229, A2, H⟩ := H); (by_cases c3 : t229 = true); (· subst c3; (replace H := Ybt H); (replace H := Yq H); (obtain ⟨t230, A4, H⟩ := H); (simp only [Option.some.injEq, Prod.mk.injEq] at H); (obtain ⟨rfl, rfl⟩ := H); (go_enter Tryd.func56, Tryd.ntmps56); (go_wp2_with (first | (refine Y5 129 (some 5) Tryd.func129 #[.int .i64 a0] ?_; (with_reducible refine (spec_l04Prime.calls a0 true _ A2.out).mono ?_); rintro e w' ⟨rfl, ⟨nd, rfl⟩⟩; refine ⟨_, rfl, ?_⟩) | (refine Y5 130 (some 8) Tryd.func130 #[.int .i64 a0] ?_; (with_reducible refine (spec_l04Points.calls k a0 t230 _ A4.out).mono ?_); rintro e w5 ⟨v231, rfl, ho0, hb⟩; refine ⟨_, rfl, ?_⟩; have HO232 := Aside0.mk (Kd.N_lower (Kd.N_mono (ok' := fun k_ => (w.heap.size ≤ k_)) ho0 (fun k_ hk_ => (Nat.le_trans (below_size (Ya)) hk_))) (below_size (Ya))); replace HB := Aside0.mk (below_step (Ya) hb); clear hb ho0))); (go_ret2); (exact ⟨_, Yl, by (with_reducible repeat (first | apply Kd.N_alloc | apply Kd.N_drewN | apply Kd.N_drew)); exact HO232.out, Ya⟩))
  · replace c3 := Bool.eq_false_iff.mpr c3
    subst c3; (replace H := Ybf H); (simp only [Option.some.injEq, Prod.mk.injEq] at H); (obtain ⟨rfl, rfl⟩ := H); (go_enter Tryd.func56, Tryd.ntmps56); (go_wp2_with (first | (refine Y5 129 (some 5) Tryd.func129 #[.int .i64 a0] ?_; (with_reducible refine (spec_l04Prime.calls a0 false _ A2.out).mono ?_); rintro e w' ⟨rfl, ⟨nd, rfl⟩⟩; refine ⟨_, rfl, ?_⟩))); (go_ret2); (exact ⟨_, Yl, by first | exact Kd.S_nil _ _ _ _ _ | exact Kd.N_nil _ _ _ _ _ | exact Kd.V_nil _ _ _ _ _ | exact Kd.Q_nil _ _ _ _ _ | exact Kd.R_nil _ _ _ _ _, Ya⟩)

end Go.Proofs.YtmofdldplbplbaaDoor.P
