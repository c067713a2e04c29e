-- Printed by a program of this workplace (wip/xp/xp.py) over the kit's print.
import Derived.Test.YtcffgfomicpbfaaP0
import Derived.Test.YtcffgfomicpbfaaP15
namespace Go.Proofs.Ytcffgfomicpbfaa.P
open Go.RowKit Go.Proofs.YtcffgfomicpbfaaW.PrintWords Go.Proofs.YtcffgfomicpbfaaW.PrintLast Go.Proofs.YtcffgfomicpbfaaW.PrintMore
attribute [local go_sem] max2_int min2_int max_two min_two max_three min_three max_four min_four   -- for this text's walks alone
set_option linter.unusedVariables false
set_option linter.unusedSimpArgs false

/-! ### impl_Digraph_reversed: function 84 -/
def impl_Digraph_reversed.is (l : List Int) (v w : Int) : Option Bool := if 0 ≤ w then (if w < (l.length : Int) then (if 0 ≤ v then some ((Go.bits .and .i64 (shr .i64 (rd l w) v) 1) == 1) else none) else none) else none
set_option maxHeartbeats 2000000 in
theorem impl_Digraph_reversed.lit (n : Int) (A : Option Addr) (c : Nat) (l : List Int) (g : Nat) (v u : Int) (b : Bool) (W : World) (hB : W.heap[g]? = some (.cells #[.int .i64 n, .slice A l.length c] 34 (0, 0)))
    (hr : Kd.C (Kd.int .i64) W A l.length l) (h : impl_Digraph_reversed.is l v u = some b) :
    Calls Try.prog 94 #[.int .i64 v, .int .i64 u, .pointer (some ⟨g, 0, none⟩)] W fun e w' => e = .returned (.bool b) ∧ w' = W := by
  have hu := Try.underlying34
  have hx0 : W.cell? ⟨g, 0, none⟩ = some (.int .i64 n) := (blk_cell hB 0).trans rfl
  have hx1 : W.cell? ⟨g, 1, none⟩ = some (.slice A l.length c) := (blk_cell hB 1).trans rfl
  clear hB
  unfold impl_Digraph_reversed.is at h
  split at h
  case isFalse => cases h
  case isTrue p0 =>
  split at h
  case isFalse => cases h
  case isTrue p1 =>
  split at h
  case isFalse => cases h
  case isTrue p2 =>
  obtain rfl := Option.some.inj h
  obtain ⟨ad, ea, hcell⟩ := Kd.at_int hr u p0 p1
  cases ea
  clear h hr
  obtain ⟨ji, hji⟩ : ∃ j_ : Int, shr .i64 (rd l u) v = j_ := ⟨_, rfl⟩
  rw [hji]
  have hj_ : (rd l u) / 2 ^ min v.toNat 64 = ji := hji
  have hjz : v ≤ 64 → (rd l u) / 2 ^ v.toNat = ji := shr_small hji
  have HJ := Aside0.mk hji
  clear hji
  have d0 : decide (0 ≤ v) = true := decide_eq_true p2
  replace p0 := eq_true p0
  replace p1 := eq_true p1
  replace p2 := eq_true p2
  go_enter Try.func94, Try.ntmps94
  go_wp2
  go_ret
  exact ⟨by first | rfl | (simp; done) | (simp [*]; done), rfl⟩
def impl_Digraph_reversed.f (k : Nat) (a0_0 : Int) (l0_1 : List Int) : Option (Int × List Int) := (impl_directed.f (impl_Digraph_reversed.is l0_1) k a0_0).bind fun bt => some (bt.1, bt.2)
set_option maxHeartbeats 8000000 in
set_option maxRecDepth 100000 in
theorem impl_Digraph_reversed.calls (k : Nat) (a0_0 : Int) (A0_1 : Option Addr) (c0_1 : Nat) (l0_1 : List Int) (r1 : Int) (r2 : List Int) (w : World) (hr0_1 : Kd.C (Kd.int .i64) w A0_1 l0_1.length l0_1) (hc0_1 : l0_1.length ≤ c0_1) (h : impl_Digraph_reversed.f k a0_0 l0_1 = some (r1, r2)) :
    Calls Try.prog 84 #[.agg #[.int .i64 a0_0, .slice A0_1 l0_1.length c0_1]] w fun e w' => ∃ v1_ : Value, e = .returned (.agg #[.int .i64 r1, v1_]) ∧ Kd.R (Kd.int .i64) 2 w' w.heap.size (fun _ => True) v1_ r2 ∧ Below w.heap.size w w' := by
  have hu := Try.underlying34
  unfold impl_Digraph_reversed.f at h
  obtain ⟨⟨t1, t2⟩, hd, h⟩ := Option.bind_eq_some_iff.mp h
  obtain ⟨rfl, rfl⟩ : t1 = r1 ∧ t2 = r2 := by simpa using h
  clear h
  have HR := Aside0.mk hr0_1
  have HC := Aside0.mk hc0_1
  clear hr0_1 hc0_1
  have HB := Aside0.mk (((Below.refl w.heap.size w).alloc (Nat.le_refl _) (.cells #[.int .i64 a0_0, .slice A0_1 l0_1.length c0_1] 34)).alloc (by simp) (.cells #[.int .i64 0, .slice none 0 0] 34))
  have HK := fun W hq => impl_directed.calls (impl_Digraph_reversed.is l0_1) 94 #[.pointer (some ⟨w.heap.size, 0, none⟩)] (enters_of Try.func94 (by kernel_rfl) rfl) k a0_0 t1 t2 W hq hd
  clear hd
  go_enter Try.func84, Try.ntmps84
  go_wp2_with fail
  refine (HK _ ?hq).mono ?_
  case hq =>
    intro x y b W hb hxy
    have hB := blk_below (blk_alloc (blk_new w (.cells #[.int .i64 a0_0, .slice A0_1 l0_1.length c0_1] 34)) (.cells #[.int .i64 0, .slice none 0 0] 34)) hb
    exact (impl_Digraph_reversed.lit a0_0 A0_1 c0_1 l0_1 w.heap.size x y b W hB (Kd.C_below (Kd.C_below HR.out HB.out) hb) hxy).mono fun e w' ⟨he, hw⟩ => ⟨he, by rw [hw]; exact Below.refl _ _⟩
  rintro e w2 ⟨v1, rfl, hR, hb⟩
  have hB1 := blk_below (g := w.heap.size + 1) (o := .cells #[.int .i64 0, .slice none 0 0] 34 (0, 0)) (by have := blk_new (w.alloc (.cells #[.int .i64 a0_0, .slice A0_1 l0_1.length c0_1] 34)) (.cells #[.int .i64 0, .slice none 0 0] 34); simpa using this) hb
  have HBB := Aside0.mk (below_then HB.out (by simp; omega) hb)
  have BK := Aside0.mk hB1
  have HO := Aside0.mk (Kd.R_lower (base' := w.heap.size) hR (by simp; omega))
  clear hR hb hB1 HB
  obtain ⟨Ao, co, eo⟩ := Kd.R_slice HO.out
  subst eo
  have hcz0 : w2.cell? ⟨w.heap.size + 1, 0, none⟩ = some (.int .i64 0) := (blk_cell BK.out 0).trans rfl
  have hcz1 : w2.cell? ⟨w.heap.size + 1, 1, none⟩ = some (.slice none 0 0) := (blk_cell BK.out 1).trans rfl
  have hfz0 := blk_frozen BK.out 0
  have hfz1 := blk_frozen BK.out 1
  go_wp2
  refine bodyPost_ret (results_cell_row rfl _ _ (w.heap.size + 1) 34 #[.int .i64 t1, .slice Ao t2.length co] (0, 0) _ rfl (by refine blk_put (cs := #[.int .i64 t1, .slice none 0 0]) ?_ 1 _ rfl; refine blk_put (cs := #[.int .i64 0, .slice none 0 0]) ?_ 0 _ rfl; exact BK.out) Try.underlying34 rfl (by kernel_rfl)) rfl ?_
  exact ⟨_, rfl, Kd.R_mono (Kd.R_far (p := ⟨w.heap.size + 1, 1, none⟩) (Kd.R_far (p := ⟨w.heap.size + 1, 0, none⟩) (Kd.R_types HO.out BK.out (by decide)) (fun _ hk => hk.2) (.int .i64 t1)) (fun _ hk => hk.2) (.slice Ao t2.length co)) (fun _ _ => trivial), below_set (below_set HBB.out (Nat.le_succ _)) (Nat.le_succ _)⟩


end Go.Proofs.Ytcffgfomicpbfaa.P
