-- Printed by a program of this workplace (wip/xp/xp.py) over the kit's print.
import Derived.Test.YtkmpkcofddpdgaaDoorP0
import Derived.Test.YtkmpkcofddpdgaaDoorP78
namespace Go.Proofs.YtkmpkcofddpdgaaDoor.P
open Go.RowKit Go.Proofs.YtkmpkcofddpdgaaDoorW.PrintWords Go.Proofs.YtkmpkcofddpdgaaDoorW.PrintLast Go.Proofs.YtkmpkcofddpdgaaDoorW.PrintMore
attribute [local go_sem] max2_int min2_int max_two min_two max_three min_three max_four min_four   -- for this text's walks alone
set_option linter.unusedVariables false
set_option linter.unusedSimpArgs false

/-! ### impl_size: function 121 -/
def impl_size.f (a0 : Int) : Option (Int) := (bits_OnesCount64.f (IntKind.u64.wrap (a0))).bind fun t696 => (some t696)
set_option maxHeartbeats 8000000 in
set_option maxRecDepth 100000 in
theorem impl_size.calls (a0 : Int) (r : Int) (w : World) (h : impl_size.f a0 = some r) :
    Calls Tryd.prog 121 #[.int .i64 a0] w fun e w' => e = .returned (.int .i64 r) ∧ Drawn0 w w' := by
  (have H : ((bits_OnesCount64.f (IntKind.u64.wrap (a0))).bind fun t696 => (some t696)) = some r := h); clear h; (replace H := Option.bind_eq_some_iff.mp H); (obtain ⟨t696, A20, H⟩ := H); (try dsimp only at H); (have A2 := Aside0.mk A20); clear A20; (obtain rfl := Option.some.inj H); (go_enter Tryd.func121, Tryd.ntmps121); (go_wp2_with (first | ((with_reducible refine gate_callee (f := 141) rfl ?_); refine goesL_ (some 5) rfl rfl Tryd.func141 (by kernel_rfl) rfl #[.int .u64 (IntKind.u64.wrap (a0))] rfl q5 ?_; (with_reducible refine (bits_OnesCount64.calls (IntKind.u64.wrap (a0)) t696 _ A2.out).mono ?_); rintro e w' ⟨rfl, ⟨nd, rfl⟩⟩; refine ⟨_, rfl, ?_⟩))); go_ret; (exact ⟨by first | rfl | (simp; done) | (simp [*]; done), by repeat (first | exact Drawn0.refl _ | apply Drawn0.step)⟩)

/-! ### impl_Graph_degree: function 139 -/
def impl_Graph_degree.f (a0_0 : Int) (l0_1 : List Int) (a1 : Int) : Option (Int) := if 0 ≤ a1 then (if a1 < (l0_1.length : Int) then ((impl_size.f (rd l0_1 a1)).bind fun t699 => (some t699)) else (none)) else (none)
set_option maxHeartbeats 8000000 in
set_option maxRecDepth 100000 in
theorem impl_Graph_degree.calls (a0_0 : Int) (A0_1 : Option Addr) (c0_1 : Nat) (l0_1 : List Int) (a1 : Int) (r : Int) (w : World) (hr0_1 : Kd.C (Kd.int .i64) w A0_1 l0_1.length l0_1) (hc0_1 : l0_1.length ≤ c0_1) (h : impl_Graph_degree.f a0_0 l0_1 a1 = some r) :
    Calls Tryd.prog 139 #[.agg #[.int .i64 a0_0, .slice A0_1 l0_1.length c0_1], .int .i64 a1] w fun e w' => e = .returned (.int .i64 r) ∧ Below w.heap.size w w' := by
  (have hu26 := Tryd.underlying26); (have HR0_1 := Aside0.mk hr0_1); (have HC0_1 := Aside0.mk hc0_1); clear hr0_1 hc0_1; (have HB := Aside0.mk (Below.refl w.heap.size w)); (have H : (if 0 ≤ a1 then (if a1 < (l0_1.length : Int) then ((impl_size.f (rd l0_1 a1)).bind fun t699 => (some t699)) else (none)) else (none)) = some r := h); clear h; (by_cases c3 : 0 ≤ a1); (· (rw [if_pos c3] at H); (have c3b0 : decide (0 ≤ a1) = true := decide_eq_true c3); clear c3; (by_cases c4 : a1 < (l0_1.length : Int)); (· (rw [if_pos c4] at H); (have c4b0 : decide (a1 < (l0_1.length : Int)) = true := decide_eq_true c4); clear c4; (replace H := Option.bind_eq_some_iff.mp H); (obtain ⟨t699, A50, H⟩ := H); (try dsimp only at H); (have A5 := Aside0.mk A50); clear A50; (obtain rfl := Option.some.inj H); (go_enter Tryd.func139, Tryd.ntmps139); (go_wp2_with (first | ((with_reducible refine gate_dst (N := 2) rfl ?_); refine box_event ?hg (N := 2) ?hd (cs := #[.int .i64 a0_0, .slice A0_1 l0_1.length c0_1]) (t := 26) ?hr ?_; (case hd => rfl); (case hg => rfl); (case hr => first | (go_simp; done) | (go_simp; rfl)); intro gb697 hg w6 hbox hb; have n0_ := Aside0.mk (below_step (q1) hb); have n1_ := Aside0.mk (hbox); have n2_ := Aside0.mk ((by rw [hg]; exact (below_size (q1)) : w.heap.size ≤ gb697)); have n3_ := Aside0.mk ((by rw [hg]; exact (below_size (q1)) : w.heap.size ≤ gb697)); clear HB; have HB := n0_; have BK697 := n1_; have GW697 := n2_; have GE697 := n3_; clear n0_ n1_ n2_ n3_; clear hb hbox hg; have hcz7_0 : w6.cell? ⟨gb697, 0, none⟩ = some (.int .i64 a0_0) := (blk_cell BK697.out 0).trans rfl; have hcz7_1 : w6.cell? ⟨gb697, 1, none⟩ = some (.slice A0_1 l0_1.length c0_1) := (blk_cell BK697.out 1).trans rfl; have hfz7_0 := blk_frozen BK697.out 0; have hfz7_1 := blk_frozen BK697.out 1; have p698 : 0 ≤ (a1 : Int) := of_decide_eq_true (by first | (with_reducible assumption) | assumption); have q698 : a1 < (l0_1.length : Int) := of_decide_eq_true (by first | (with_reducible assumption) | assumption); obtain ⟨ad698, e698, hx698_0⟩ := Kd.at_int HR0_1.out a1 p698 q698; cases e698; replace hx698_0 := (HB.out.cell (World.block_lt_of_cell? w _ hx698_0)).trans hx698_0; replace p698 := eq_true p698; replace q698 := eq_true q698) | ((with_reducible refine gate_callee (f := 121) rfl ?_); refine goesL_ (some 10) rfl rfl Tryd.func121 (by kernel_rfl) rfl #[.int .i64 (rd l0_1 a1)] rfl q5 ?_; (with_reducible refine (impl_size.calls (rd l0_1 a1) t699 _ A5.out).mono ?_); rintro e w' ⟨rfl, ⟨nd, rfl⟩⟩; refine ⟨_, rfl, ?_⟩))); go_ret; (exact ⟨by first | rfl | (simp [errW_none, errW_some] <;> rfl) | (simp [*, errW_none, errW_some] <;> rfl), q1⟩)); (· (rw [if_neg c4] at H); (exact absurd H (by simp))))
  · rw [if_neg c3] at H
    (exact absurd H (by simp))

end Go.Proofs.YtkmpkcofddpdgaaDoor.P
