-- Printed by a program of this workplace (wip/xp/xp.py) over the kit's print.
import Derived.Test.YtkmpkcofddpdgaaP0
import Derived.Test.YtkmpkcofddpdgaaP18
namespace Go.Proofs.Ytkmpkcofddpdgaa.P
open Go.RowKit Go.Proofs.YtkmpkcofddpdgaaW.PrintWords Go.Proofs.YtkmpkcofddpdgaaW.PrintLast Go.Proofs.YtkmpkcofddpdgaaW.PrintMore
attribute [local go_sem] max2_int min2_int max_two min_two max_three min_three max_four min_four   -- for this text's walks alone
set_option linter.unusedVariables false
set_option linter.unusedSimpArgs false

/-! ### impl_Group_inverse: function 34 -/
def impl_Group_inverse.l0 : Nat → Int → Int → Int → Int → Option (Int)
  | 0, _, _, _, _ => none
  | k + 1, x1, x5, x186000, x186001 => (impl_Group_product.f x186000 x186001 x1 x5).bind fun t186 => (if t186 = 0 then (some x5) else (impl_Group_inverse.l0 k x1 (wrap64 (x5 + 1)) x186000 x186001))
def impl_Group_inverse.f (k : Nat) (a0_0 : Int) (a0_1 : Int) (a1 : Int) : Option (Int) := impl_Group_inverse.l0 k a1 0 a0_0 a0_1
set_option maxHeartbeats 8000000 in
set_option maxRecDepth 100000 in
theorem impl_Group_inverse.calls (k : Nat) (a0_0 : Int) (a0_1 : Int) (a1 : Int) (r : Int) (w : World) (h : impl_Group_inverse.f k a0_0 a0_1 a1 = some r) :
    Calls Try.prog 34 #[.agg #[.int .i64 a0_0, .int .i64 a0_1], .int .i64 a1] w fun e w' => e = .returned (.int .i64 r) ∧ Below w.heap.size w w' := by
  (have hu29 := Try.underlying29); (have HB := Aside0.mk (Below.refl w.heap.size w)); (have H : (impl_Group_inverse.l0 k a1 0 a0_0 a0_1) = some r := h); clear h; (have H' := Aside0.mk H); clear H; (go_enter Try.func34, Try.ntmps34); (go_wp2_with (first | ((with_reducible refine gate_dst (N := 2) rfl ?_); refine box_event ?hg (N := 2) ?hd (cs := #[.int .i64 a0_0, .int .i64 a0_1]) (t := 29) ?hr ?_; (case hd => rfl); (case hg => rfl); (case hr => first | (go_simp; done) | (go_simp; rfl)); intro gb185 hg w3 hbox hb; have n0_ := Aside0.mk (below_step (q1) hb); have n1_ := Aside0.mk (hbox); have n2_ := Aside0.mk ((by rw [hg]; exact (below_size (q1)) : w.heap.size ≤ gb185)); have n3_ := Aside0.mk ((by rw [hg]; exact (below_size (q1)) : w.heap.size ≤ gb185)); clear HB; have HB := n0_; have BK185 := n1_; have GW185 := n2_; have GE185 := n3_; clear n0_ n1_ n2_ n3_; clear hb hbox hg))); (go_loopg [5] k (fun kq v5 w' => ∃ (x5_1 : Int), v5 = .int .i64 x5_1 ∧ Aside0 (impl_Group_inverse.l0 kq a1 x5_1 a0_0 a0_1 = some r) ∧ Aside0 (kq ≤ k) ∧ Aside0 (w'.heap[gb185]? = some (.cells #[.int .i64 a0_0, .int .i64 a0_1] 29 (0, 0))) ∧ Aside0 (Below w.heap.size w w'))); (case atStart => exact ⟨(0), q6, H', ⟨Nat.le_refl _⟩, ⟨q4 BK185⟩, ⟨q1⟩⟩)
  case round =>
    (clear H'); (try clear p2); (try clear c3); (obtain ⟨x5_1, rfl, HA, HK1, BK185, HB⟩ := hrel)
    cases gk with
    | zero => exact absurd HA.out (by simp [impl_Group_inverse.l0])
    | succ k1 =>
      (have H := HA.out); clear HA; (simp only [impl_Group_inverse.l0] at H); (replace H := Option.bind_eq_some_iff.mp H); (obtain ⟨t186, A40, H⟩ := H); (try dsimp only at H); (have A4 := Aside0.mk A40); clear A40; (by_cases c5 : t186 = 0); (· (rw [if_pos c5] at H); (have c5b0 : (t186 == 0) = true := beq_iff_eq.mpr c5); (have c5b1 : (t186 != 0) = false := bne_eq_false_iff_eq.mpr c5); clear c5; (obtain rfl := Option.some.inj H); (have hcz6_0 : wr.cell? ⟨gb185, 0, none⟩ = some (.int .i64 a0_0) := (blk_cell BK185.out 0).trans rfl); (have hcz6_1 : wr.cell? ⟨gb185, 1, none⟩ = some (.int .i64 a0_1) := (blk_cell BK185.out 1).trans rfl); (have hfz6_0 := blk_frozen BK185.out 0); (have hfz6_1 := blk_frozen BK185.out 1); (go_wp2_with (first | ((with_reducible refine gate_callee (f := 19) rfl ?_); refine goesL_ (some 9) rfl rfl Try.func19 (by kernel_rfl) rfl #[.agg #[.int .i64 a0_0, .int .i64 a0_1], .int .i64 a1, .int .i64 x5_1] rfl q5 ?_; (with_reducible refine (impl_Group_product.calls a0_0 a0_1 a1 x5_1 t186 _ A4.out).mono ?_); rintro e w7 ⟨rfl, hb⟩; refine ⟨_, rfl, ?_⟩; have n0_ := Aside0.mk (blk_below (g := gb185) (o := .cells #[.int .i64 a0_0, .int .i64 a0_1] 29 (0, 0)) (q4 BK185) hb); have n1_ := Aside0.mk (below_step (q1) hb); clear BK185; clear HB; have BK185 := n0_; have HB := n1_; clear n0_ n1_; (try clear hb); (try clear hb2); (try clear hk); (try clear hi)))); go_ret; (exact ⟨by first | rfl | (simp [errW_none, errW_some] <;> rfl) | (simp [*, errW_none, errW_some] <;> rfl), q1⟩))
      · rw [if_neg c5] at H
        (have c5b0 : (t186 == 0) = false := beq_eq_false_iff_ne.mpr c5); (have c5b1 : (t186 != 0) = true := bne_iff_ne.mpr c5); (have H' := Aside0.mk H); clear H; (have hcz8_0 : wr.cell? ⟨gb185, 0, none⟩ = some (.int .i64 a0_0) := (blk_cell BK185.out 0).trans rfl); (have hcz8_1 : wr.cell? ⟨gb185, 1, none⟩ = some (.int .i64 a0_1) := (blk_cell BK185.out 1).trans rfl); (have hfz8_0 := blk_frozen BK185.out 0); (have hfz8_1 := blk_frozen BK185.out 1); (go_wp2_with (first | ((with_reducible refine gate_callee (f := 19) rfl ?_); refine goesL_ (some 9) rfl rfl Try.func19 (by kernel_rfl) rfl #[.agg #[.int .i64 a0_0, .int .i64 a0_1], .int .i64 a1, .int .i64 x5_1] rfl q5 ?_; (with_reducible refine (impl_Group_product.calls a0_0 a0_1 a1 x5_1 t186 _ A4.out).mono ?_); rintro e w9 ⟨rfl, hb⟩; refine ⟨_, rfl, ?_⟩; have n0_ := Aside0.mk (blk_below (g := gb185) (o := .cells #[.int .i64 a0_0, .int .i64 a0_1] 29 (0, 0)) (q4 BK185) hb); have n1_ := Aside0.mk (below_step (q1) hb); clear BK185; clear HB; have BK185 := n0_; have HB := n1_; clear n0_ n1_; (try clear hb); (try clear hb2); (try clear hk); (try clear hi)))); (go_roundg k1); (case measure => have := HK1.out; omega); (case rel => exact ⟨(wrap64 (x5_1 + 1)), q6, H', ⟨by have := HK1.out; omega⟩, ⟨q4 BK185⟩, ⟨q1⟩⟩)

end Go.Proofs.Ytkmpkcofddpdgaa.P
