-- Printed by a program of this workplace (wip/xp/xp.py) over the kit's print.
import Derived.Test.YtmofdldplbplbaaDoorP0
import Derived.Test.YtmofdldplbplbaaDoorP35
namespace Go.Proofs.YtmofdldplbplbaaDoor.P
open Go.RowKit Go.Proofs.YtmofdldplbplbaaDoorW.PrintWords Go.Proofs.YtmofdldplbplbaaDoorW.PrintLast Go.Proofs.YtmofdldplbplbaaDoorW.PrintMore
attribute [local go_sem] max2_int min2_int max_two min_two max_three min_three max_four min_four   -- for this text's walks alone
set_option linter.unusedVariables false
set_option linter.unusedSimpArgs false

/-! ### impl_Graph_part: function 187 -/
mutual
def impl_Graph_part.l0 : Nat → Int → Int → Int → List Int → Option (Int)
  | 0, _, _, _, _ => none
  | k + 1, x5, x6, x376000, x376001 => if x6 = 0 then (some x5) else ((impl_list.f k x6).bind fun t376 => (impl_Graph_part.l1 k x5 0 t376 (t376.length : Int) 0 x376000 x376001))
def impl_Graph_part.l1 : Nat → Int → Int → List Int → Int → Int → Int → List Int → Option (Int)
  | 0, _, _, _, _, _, _, _ => none
  | k + 1, x5, x7, x16, x17, x18, x376000, x376001 => if x18 < x17 then (if 0 ≤ x18 then (if x18 < (x16.length : Int) then (if 0 ≤ (rd x16 x18) then (if (rd x16 x18) < (x376001.length : Int) then (impl_Graph_part.l1 k x5 (Go.bits .or .i64 x7 (rd x376001 (rd x16 x18))) x16 x17 (wrap64 (x18 + 1)) x376000 x376001) else (none)) else (none)) else (none)) else (none)) else (impl_Graph_part.l0 k (Go.bits .or .i64 x5 x7) (Go.bits .andNot .i64 x7 x5) x376000 x376001)
end
def impl_Graph_part.f (k : Nat) (a0_0 : Int) (l0_1 : List Int) (a1 : Int) : Option (Int) := if 0 ≤ a1 then (impl_Graph_part.l0 k (shl .i64 1 a1) (shl .i64 1 a1) a0_0 l0_1) else (none)
set_option maxHeartbeats 8000000 in
set_option maxRecDepth 100000 in
theorem impl_Graph_part.calls (k : Nat) (a0_0 : Int) (A0_1 : Option Addr) (c0_1 : Nat) (l0_1 : List Int) (a1 : Int) (r : Int) (w : World) (hr0_1 : Kd.C (Kd.int .i64) w A0_1 l0_1.length l0_1) (hc0_1 : l0_1.length ≤ c0_1) (hT : TabW w) (h : impl_Graph_part.f k a0_0 l0_1 a1 = some r) :
    Calls Tryd.prog 187 #[.agg #[.int .i64 a0_0, .slice A0_1 l0_1.length c0_1], .int .i64 a1] w fun e w' => e = .returned (.int .i64 r) ∧ Below w.heap.size w w' := by
  (have hu26 := Tryd.underlying26); (have HT := Aside0.mk hT); clear hT; (have HR0_1 := Aside0.mk hr0_1); (have HC0_1 := Aside0.mk hc0_1); clear hr0_1 hc0_1; (have HB := Aside0.mk (Below.refl w.heap.size w)); (have H : (if 0 ≤ a1 then (impl_Graph_part.l0 k (shl .i64 1 a1) (shl .i64 1 a1) a0_0 l0_1) else (none)) = some r := h); clear h; (replace H := En H); (obtain ⟨c3b0, c3b1, H⟩ := H); (obtain ⟨ji4, hji4⟩ := Yt (shl .i64 1 a1)); (try simp only [hji4] at H); (obtain ⟨hji4_, hji4z, hji4u, hji4v, hji4y, hji4x⟩ := Yu hji4); (have H' := Aside0.mk H); clear H; (go_enter Tryd.func187, Tryd.ntmps187); (go_wp2_with (first | (refine Y4 2 #[.int .i64 a0_0, .slice A0_1 l0_1.length c0_1] 26 ?_; intro gb375 hg w5 hbox hb; have BK375 := Aside0.mk (hbox); have GW375 := Yge HB hg; have GE375 := Yge HB hg; replace HB := Aside0.mk (below_step (Ya) hb); clear hb hbox hg))); (go_loopg [5, 6] k (fun kq v5 v6 w' => ∃ (x5_1 : Int) (x6_1 : Int), v5 = .int .i64 x5_1 ∧ v6 = .int .i64 x6_1 ∧ Aside0 (impl_Graph_part.l0 kq x5_1 x6_1 a0_0 l0_1 = some r) ∧ Aside0 (kq ≤ k) ∧ Aside0 (w'.heap[gb375]? = some (.cells #[.int .i64 a0_0, (.slice A0_1 l0_1.length c0_1)] 26 (0, 0))) ∧ Aside0 (Below w.heap.size w w'))); (case atStart => exact ⟨(ji4), (ji4), (by first | rfl | (simp; done) | (simp only [← hji4] <;> (first | rfl | simp)) | (simp [*]; done)), (by first | rfl | (simp; done) | (simp only [← hji4] <;> (first | rfl | simp)) | (simp [*]; done)), H', ⟨Nat.le_refl _⟩, ⟨Ye BK375⟩, ⟨Ya⟩⟩)
  case round =>
    (clear H'); (try clear c3b0); (try clear c3b1); (obtain ⟨x5_1, x6_1, rfl, rfl, HA, HK1, BK375, HB⟩ := hrel)
    cases gk with
    | zero => exact absurd HA.out (by simp [impl_Graph_part.l0])
    | succ k1 =>
      (have H := HA.out); clear HA; (simp only [impl_Graph_part.l0] at H); (replace H := Yp H); (obtain ⟨c6, H⟩ | ⟨c6, H⟩ := H); (· (obtain ⟨c6b0, c6b1⟩ := Yv c6); clear c6; (obtain rfl := Option.some.inj H); go_wp2; go_ret; (exact ⟨by first | rfl | (simp [errW_none, errW_some] <;> rfl) | (simp only [← hji4]; first | rfl | (simp [errW_none, errW_some] <;> rfl)) | (simp [*, errW_none, errW_some] <;> rfl), Ya⟩))
      · obtain ⟨c6b0, c6b1⟩ := Yw c6
        (replace H := Yq H); (obtain ⟨t376, A7, H⟩ := H); (have H' := Aside0.mk H); clear H; (go_wp2_with (first | (refine Y5 99 (some 16) Tryd.func99 #[.int .i64 x6_1] ?_; (with_reducible refine (impl_list.calls k1 x6_1 t376 _ ?side1 A7.out).mono ?_); (case side1 => exact TabW.below HT.out (Ya)); rintro e w8 ⟨v377, rfl, ho0, hb⟩; refine ⟨_, rfl, ?_⟩; have HO378 := Aside0.mk (Kd.R_lower ho0 (below_size (Ya))); replace BK375 := Aside0.mk (blk_below (Ye BK375) hb); replace HB := Aside0.mk (below_step (Ya) hb); clear hb ho0; obtain ⟨Ao9, co9, eo9⟩ := Kd.R_slice HO378.out; subst eo9))); (go_loopg [7, 18] k1 (fun kq v7 v18 w' => ∃ (x7_2 : Int) (x18_2 : Int), v7 = .int .i64 x7_2 ∧ v18 = .int .i64 x18_2 ∧ Aside0 (impl_Graph_part.l1 kq x5_1 x7_2 t376 (t376.length : Int) x18_2 a0_0 l0_1 = some r) ∧ Aside0 (kq ≤ k1) ∧ Aside0 (Kd.R (Kd.int .i64) 2 w' w.heap.size (fun _ => True) (.slice Ao9 t376.length co9) t376) ∧ Aside0 (w'.heap[gb375]? = some (.cells #[.int .i64 a0_0, (.slice A0_1 l0_1.length c0_1)] 26 (0, 0))) ∧ Aside0 (Below w.heap.size w w'))); (case atStart => exact ⟨(0), (0), Yk, Yk, H', ⟨Nat.le_refl _⟩, ⟨YcR HO378⟩, ⟨Ye BK375⟩, ⟨Ya⟩⟩)
        case round =>
          (clear H'); (try clear c3b0); (try clear c3b1); (try clear c6); (try clear c6b0); (try clear c6b1); (obtain ⟨x7_2, x18_2, rfl, rfl, HA, HK2, HO_16, BK375, HB⟩ := hrel)
          cases gk with
          | zero => exact absurd HA.out (by simp [impl_Graph_part.l1])
          | succ k2 =>
            (have H := HA.out); clear HA; (simp only [impl_Graph_part.l1] at H); (replace H := Yp H); (obtain ⟨c10, H⟩ | ⟨c10, H⟩ := H); (· (have c10b0 := decide_eq_true c10); clear c10; (replace H := Dn3 H); (obtain ⟨c11b0, c12b0, c13b0, H⟩ := H); (replace H := Dn H); (obtain ⟨c14b0, H⟩ := H); (have H' := Aside0.mk H); clear H; (have p379 : 0 ≤ (x18_2 : Int) := Ym); (have q379 : x18_2 < (t376.length : Int) := Ym); (obtain ⟨ad379, e379, hx379_0⟩ := Kd.at_int (Kd.R_reads' HO_16.out).2.2 x18_2 p379 q379); (cases e379); (replace p379 := eq_true p379); (replace q379 := eq_true q379); (obtain ⟨hcz15_0, hcz15_1, hfz15_0, hfz15_1⟩ := Y2 BK375); (have p380 : 0 ≤ ((rd t376 x18_2) : Int) := Ym); (have q380 : (rd t376 x18_2) < (l0_1.length : Int) := Ym); (obtain ⟨ad380, e380, hx380_0⟩ := Kd.at_int HR0_1.out (rd t376 x18_2) p380 q380); (cases e380); (replace hx380_0 := (HB.out.cell (World.block_lt_of_cell? _ _ hx380_0)).trans hx380_0); (replace p380 := eq_true p380); (replace q380 := eq_true q380); go_wp2; (go_roundg k2); (case measure => have := HK1.out; have := HK2.out; omega); (case rel => exact ⟨(Go.bits .or .i64 x7_2 (rd l0_1 (rd t376 x18_2))), (wrap64 (x18_2 + 1)), Yk, Yk, H', ⟨by have := HK1.out; have := HK2.out; omega⟩, ⟨YcR HO_16⟩, ⟨Ye BK375⟩, ⟨Ya⟩⟩))
            · have c10b0 := decide_eq_false c10
              clear c10; (have H' := Aside0.mk H); clear H; go_wp2; (go_roundg k2); (case measure => have := HK1.out; have := HK2.out; omega); (case rel => exact ⟨(Go.bits .or .i64 x5_1 x7_2), (Go.bits .andNot .i64 x7_2 x5_1), Yk, Yk, H', ⟨by have := HK1.out; have := HK2.out; omega⟩, ⟨Ye BK375⟩, ⟨Ya⟩⟩)

end Go.Proofs.YtmofdldplbplbaaDoor.P
