-- Printed by a program of this workplace (wip/xp/xp.py) over the kit's print.
import Derived.Test.YtcffgfomicpbfaaP0
import Derived.Test.YtcffgfomicpbfaaP6
import Derived.Test.YtcffgfomicpbfaaP11
import Derived.Test.YtcffgfomicpbfaaP13
import Derived.Test.YtcffgfomicpbfaaP15
import Derived.Test.YtcffgfomicpbfaaP17
namespace Go.Proofs.Ytcffgfomicpbfaa.P
open Go.RowKit Go.Proofs.YtcffgfomicpbfaaW.PrintWords Go.Proofs.YtcffgfomicpbfaaW.PrintLast Go.Proofs.YtcffgfomicpbfaaW.PrintMore
attribute [local go_sem] max2_int min2_int max_two min_two max_three min_three max_four min_four   -- for this text's walks alone
set_option linter.unusedVariables false
set_option linter.unusedSimpArgs false

/-! ### laws_FnExactKautzWords: function 4 -/
/-- What the law comes to on its good path (elsewhere nothing is said). -/
def laws_FnExactKautzWords.f (k : Nat) (a0 : Int) (a1 : Int) : Option Bool := (spec_KautzWords.f k a0 a1).bind fun w => (impl_KautzWords.f k a0 a1).bind fun g => (laws_eqInt64SS.f k g.1 w.1).bind fun e1 => (laws_markInt64SS.f k g.1 1).bind fun m => (laws_heldInt64SS.f k m.2 1).bind fun q => (if e1 = true ∧ g.2 = w.2 ∧ 0 ≤ q ∧ q = m.1 then (some true) else none)
set_option maxHeartbeats 8000000 in
set_option maxRecDepth 100000 in
theorem laws_FnExactKautzWords.calls (k : Nat) (a0 : Int) (a1 : Int) (r : Bool) (w : World) (h : laws_FnExactKautzWords.f k a0 a1 = some r) :
    Calls Try.prog 4 #[.int .i64 a0, .int .i64 a1] w fun e w' => e = .returned (.bool r) ∧ Below w.heap.size w w' := by
  unfold laws_FnExactKautzWords.f at h
  obtain ⟨⟨ws, wc⟩, A3, h⟩ := Option.bind_eq_some_iff.mp h
  obtain ⟨⟨gs, gc⟩, A4, h⟩ := Option.bind_eq_some_iff.mp h
  obtain ⟨e1, A5, h⟩ := Option.bind_eq_some_iff.mp h
  obtain ⟨⟨m1, m2⟩, A8, h⟩ := Option.bind_eq_some_iff.mp h
  obtain ⟨q, A9, h⟩ := Option.bind_eq_some_iff.mp h
  dsimp only at A3 A4 A5 A8 A9 h
  by_cases z : e1 = true ∧ gc = wc ∧ 0 ≤ q ∧ q = m1
  case neg => rw [if_neg z] at h; cases h
  case pos =>
  rw [if_pos z] at h
  obtain rfl := Option.some.inj h
  clear h
  obtain ⟨rfl, rfl, hq0, rfl⟩ := z
  have HA3 := Aside0.mk A3
  have HA4 := Aside0.mk A4
  have HA5 := Aside0.mk A5
  have HA8 := Aside0.mk A8
  have HA9 := Aside0.mk A9
  clear A3 A4 A5 A8 A9
  have dq : decide (q < 0) = false := decide_eq_false (by omega)
  clear hq0
  have HB := Aside0.mk (Below.refl w.heap.size w)
  go_enter Try.func4, Try.ntmps4
  go_wp2_with fail
  refine (spec_KautzWords.calls k a0 a1 ws gc _ HA3.out).mono ?_
  rintro e w1 ⟨vw, rfl, hd, hb⟩
  obtain ⟨Aw, cw, rfl⟩ := Kd.N_slice hd
  have HW := Aside0.mk (show Kd.N (Kd.slice 2 (Kd.int .i64)) 22 w1 w.heap.size (fun k_ => k_ < w1.heap.size) _ ws from Kd.N_mono (Kd.N_bound hd) (fun k_ hk => hk.2))
  clear hd
  have n_HB := Aside0.mk (below_then HB.out (below_size HB.out) hb)
  clear HB
  have HB := n_HB
  clear n_HB
  clear hb
  go_wp2_with fail
  refine (impl_KautzWords.calls k a0 a1 gs gc _ HA4.out).mono ?_
  rintro e w2 ⟨vg, rfl, hd, hb⟩
  obtain ⟨Ag, cg, rfl⟩ := Kd.S_slice hd
  have HG := Aside0.mk (show Kd.S (Kd.slice 2 (Kd.int .i64)) 22 w2 w.heap.size (fun k_ => w1.heap.size ≤ k_ ∧ k_ < w2.heap.size) _ gs from Kd.S_lower (Kd.S_mono (Kd.S_bound hd) (fun k_ hk => ⟨hk.2.1, hk.2.2.1⟩)) (below_size HB.out))
  clear hd
  have n_HW := Aside0.mk (Kd.N_below HW.out hb)
  have n_HB := Aside0.mk (below_then HB.out (below_size HB.out) hb)
  clear HW
  clear HB
  have HW := n_HW
  clear n_HW
  have HB := n_HB
  clear n_HB
  clear hb
  go_wp2_with fail
  refine (laws_eqInt64SS.calls k Ag cg gs Aw cw ws true _ (Kd.S_reads' HG.out).2.2 (Kd.S_reads' HG.out).2.1 (Kd.N_reads' HW.out).2.2 (Kd.N_reads' HW.out).2.1 HA5.out).mono ?_
  rintro e w3 ⟨rfl, hd⟩
  have hb := hd.below
  clear hd
  have n_HW := Aside0.mk (Kd.N_below HW.out hb)
  have n_HG := Aside0.mk (Kd.S_below HG.out hb)
  have n_HB := Aside0.mk (below_then HB.out (below_size HB.out) hb)
  clear HW
  clear HG
  clear HB
  have HW := n_HW
  clear n_HW
  have HG := n_HG
  clear n_HG
  have HB := n_HB
  clear n_HB
  clear hb
  go_wp2_with fail
  refine (laws_markInt64SS.calls k (fun k_ => w1.heap.size ≤ k_ ∧ k_ < w2.heap.size) Ag cg gs 1 q m2 w _ HB.out HG.out HA8.out).mono ?_
  rintro e w4 ⟨rfl, hS, hl, hB, hK⟩
  have n_HW := Aside0.mk (Kd.N_kept HW.out hK (fun k_ hk e_ => by omega))
  rw [← hl] at hS
  rw [← hl]
  clear HW HG HB hK hl
  have HW := n_HW
  have HG := Aside0.mk (Kd.S_mono (ok' := fun _ => True) hS (fun _ _ => trivial))
  have HB := Aside0.mk hB
  clear n_HW hS hB
  go_wp2_with fail
  refine (laws_heldInt64SS.calls k Ag cg m2 1 q _ (Kd.S_reads' HG.out).2.2 (Kd.S_reads' HG.out).2.1 HA9.out).mono ?_
  rintro e w5 ⟨rfl, hd⟩
  have hb := hd.below
  clear hd
  have n_HW := Aside0.mk (Kd.N_below HW.out hb)
  have n_HG := Aside0.mk (Kd.S_below HG.out hb)
  have n_HB := Aside0.mk (below_then HB.out (below_size HB.out) hb)
  clear HW
  clear HG
  clear HB
  have HW := n_HW
  clear n_HW
  have HG := n_HG
  clear n_HG
  have HB := n_HB
  clear n_HB
  clear hb
  go_wp2_with fail
  refine (impl_KautzWords.calls k a0 a1 gs gc _ HA4.out).mono ?_
  rintro e w6 ⟨vh, rfl, hd, hb⟩
  obtain ⟨Ah, ch, rfl⟩ := Kd.S_slice hd
  have HH := Aside0.mk hd
  clear hd
  have n_HW := Aside0.mk (Kd.N_below HW.out hb)
  have n_HG := Aside0.mk (Kd.S_below HG.out hb)
  have n_HB := Aside0.mk (below_then HB.out (below_size HB.out) hb)
  clear HW
  clear HG
  clear HB
  have HW := n_HW
  clear n_HW
  have HG := n_HG
  clear n_HG
  have HB := n_HB
  clear n_HB
  clear hb
  go_wp2_with fail
  refine (laws_eqInt64SS.calls k Ah ch gs Aw cw ws true _ (Kd.S_reads' HH.out).2.2 (Kd.S_reads' HH.out).2.1 (Kd.N_reads' HW.out).2.2 (Kd.N_reads' HW.out).2.1 HA5.out).mono ?_
  rintro e w7 ⟨rfl, hd⟩
  have hb := hd.below
  clear hd
  have n_HW := Aside0.mk (Kd.N_below HW.out hb)
  have n_HG := Aside0.mk (Kd.S_below HG.out hb)
  have n_HB := Aside0.mk (below_then HB.out (below_size HB.out) hb)
  clear HW
  clear HG
  clear HB
  have HW := n_HW
  clear n_HW
  have HG := n_HG
  clear n_HG
  have HB := n_HB
  clear n_HB
  clear hb
  clear HH
  go_wp2_with fail
  refine (laws_heldInt64SS.calls k Ag cg m2 1 q _ (Kd.S_reads' HG.out).2.2 (Kd.S_reads' HG.out).2.1 HA9.out).mono ?_
  rintro e w8 ⟨rfl, hd⟩
  have hb := hd.below
  clear hd
  have n_HW := Aside0.mk (Kd.N_below HW.out hb)
  have n_HG := Aside0.mk (Kd.S_below HG.out hb)
  have n_HB := Aside0.mk (below_then HB.out (below_size HB.out) hb)
  clear HW
  clear HG
  clear HB
  have HW := n_HW
  clear n_HW
  have HG := n_HG
  clear n_HG
  have HB := n_HB
  clear n_HB
  clear hb
  go_wp2
  go_ret
  exact ⟨by first | rfl | (simp; done) | (simp [*]; done), HB.out⟩

end Go.Proofs.Ytcffgfomicpbfaa.P
