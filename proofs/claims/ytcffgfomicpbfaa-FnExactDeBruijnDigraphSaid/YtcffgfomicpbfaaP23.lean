-- Printed by a program of this workplace (wip/xp/xp.py) over the kit's print.
import Derived.Test.YtcffgfomicpbfaaP0
import Derived.Test.YtcffgfomicpbfaaP1
import Derived.Test.YtcffgfomicpbfaaP18
namespace Go.Proofs.Ytcffgfomicpbfaa.P
open Go.RowKit Go.Proofs.YtcffgfomicpbfaaW.PrintWords Go.Proofs.YtcffgfomicpbfaaW.PrintLast Go.Proofs.YtcffgfomicpbfaaW.PrintMore
attribute [local go_sem] max2_int min2_int max_two min_two max_three min_three max_four min_four   -- for this text's walks alone
set_option linter.unusedVariables false
set_option linter.unusedSimpArgs false

/-! ### impl_wordDigraph: function 50 -/
def impl_wordDigraph.is (k : Nat) (l : List (List Int)) (v u : Int) : Option Bool := if 0 ≤ v then (if v < (l.length : Int) then (if 0 < ((rd_L1 l v).length : Int) then (if 0 ≤ u then (if u < (l.length : Int) then (if 0 < ((rd_L1 l u).length : Int) then (slices_Equal_int64_int64.f k ((rd_L1 l v).drop 1) ((rd_L1 l u).take ((rd_L1 l u).length - 1))) else none) else none) else none) else none) else none) else none
set_option maxHeartbeats 4000000 in
theorem impl_wordDigraph.lit (k : Nat) (A : Option Addr) (c : Nat) (l : List (List Int)) (g : Nat) (v u : Int) (b : Bool) (W : World) (hB : W.heap[g]? = some (.cells #[.slice A l.length c] 28 (0, 0)))
    (hr : Kd.C (Kd.slice 2 (Kd.int .i64)) W A l.length l) (h : impl_wordDigraph.is k l v u = some b) :
    Calls Try.prog 77 #[.int .i64 v, .int .i64 u, .pointer (some ⟨g, 0, none⟩)] W fun e w' => e = .returned (.bool b) ∧ Below W.heap.size W w' := by
  have hx0 : W.cell? ⟨g, 0, none⟩ = some (.slice A l.length c) := (blk_cell hB 0).trans rfl
  clear hB
  unfold impl_wordDigraph.is at h
  split at h
  case isFalse => cases h
  case isTrue p0 =>
  split at h
  case isFalse => cases h
  case isTrue p1 =>
  split at h
  case isFalse => cases h
  case isTrue p2 =>
  split at h
  case isFalse => cases h
  case isTrue p3 =>
  split at h
  case isFalse => cases h
  case isTrue p4 =>
  split at h
  case isFalse => cases h
  case isTrue p5 =>
  obtain ⟨ad, A0, c0, ea, hx1, hl1, hi1⟩ := at_L1 hr v p0 p1
  obtain ⟨ad', A1, c1, ea', hx2, hl2, hi2⟩ := at_L1 hr u p3 p4
  cases ea
  cases ea'
  obtain ⟨x, hx_⟩ : ∃ x, rd_L1 l v = x := ⟨_, rfl⟩
  obtain ⟨y, hy_⟩ : ∃ y, rd_L1 l u = y := ⟨_, rfl⟩
  rw [hx_] at h hx1 hl1 hi1 p2
  rw [hy_] at h hx2 hl2 hi2 p5
  clear hx_ hy_ hr
  have H := Aside0.mk h
  have eP : A0.map (fun x => x.add (1 * (Kd.int .i64).sz)) = Option.map (fun x => ({ block := x.block, off := x.off + 1 } : Addr)) A0 := by cases A0 <;> rfl
  have D1_ := Kd.C_drop hi1 (m := 1) (by omega) hl1
  rw [eP] at D1_
  have D1 := Aside0.mk D1_
  clear eP D1_
  have e1 : x.length - 1 = (x.drop 1).length := List.length_drop.symm
  have e2 : y.length - 1 = (y.take (y.length - 1)).length := by rw [List.length_take]; omega
  have E1 := Aside0.mk e1
  have E2 := Aside0.mk e2
  clear e1 e2
  have hm2 := hi2.2.1
  have D2 := Aside0.mk (Kd.C_take hi2 (m := y.length - 1) (by omega))
  have HL1 := Aside0.mk hl1
  have HL2 := Aside0.mk hl2
  have P2 := Aside0.mk p2
  have P5 := Aside0.mk p5
  clear h hi1 hi2
  have hc0 : (x.length : Int) ≤ (c0 : Int) := by omega
  have hc1 : (y.length : Int) ≤ (c1 : Int) := by omega
  have w5 : IntKind.i64.wrap ((y.length : Int) - 1) = (y.length : Int) - 1 := by rw [IntKind.wrap_i64]; omega
  clear hm2
  have z1 : (1 : Int) ≤ (x.length : Int) := by omega
  have z2 : 0 ≤ (y.length : Int) - 1 := by omega
  have z3 : (y.length : Int) - 1 ≤ (y.length : Int) := by omega
  have z4 : (y.length : Int) - 1 ≤ (c1 : Int) := by omega
  have z5 : ((y.length : Int) - 1).toNat = y.length - 1 := by omega
  replace p0 := eq_true p0
  replace p1 := eq_true p1
  replace p3 := eq_true p3
  replace p4 := eq_true p4
  clear hl1 hl2 p2 p5
  go_enter Try.func77, Try.ntmps77
  go_wp2_with fail
  go_quiet ((go_at_call 78; rw [E1.out]; conv => { arg 3; rw [E2.out] }; refine Calls.quiet_of ((slices_Equal_int64_int64.calls k _ _ (x.drop 1) _ _ (y.take (y.length - 1)) b _ (Kd.C_drewN D1.out _) (by have := HL1.out; rw [List.length_drop]; omega) (Kd.C_drewN D2.out _) (by have := HL2.out; rw [List.length_take]; omega) H.out).mono fun e w' ⟨he, hd⟩ => ⟨he, hd.out⟩)))
  go_wp2
  all_goals (go_ret; exact ⟨by first | rfl | (simp; done) | (simp [*]; done), by first | exact Below.refl _ _ | exact below_drew (Below.refl _ _) | exact pw_below_drewN (Below.refl _ _) _⟩)
def impl_wordDigraph.f (k : Nat) (l0 : List (List Int)) : Option (Int × List Int) := (impl_directed.f (impl_wordDigraph.is k l0) k (l0.length : Int)).bind fun bt => some (bt.1, bt.2)
set_option maxHeartbeats 8000000 in
set_option maxRecDepth 100000 in
theorem impl_wordDigraph.calls (k : Nat) (A0 : Option Addr) (c0 : Nat) (l0 : List (List Int)) (r1 : Int) (r2 : List Int) (w : World) (hr0 : Kd.C (Kd.slice 2 (Kd.int .i64)) w A0 l0.length l0) (hc0 : l0.length ≤ c0) (h : impl_wordDigraph.f k l0 = some (r1, r2)) :
    Calls Try.prog 50 #[.slice A0 l0.length c0] w fun e w' => ∃ v1_ : Value, e = .returned (.agg #[.int .i64 r1, v1_]) ∧ Kd.R (Kd.int .i64) 2 w' w.heap.size (fun _ => True) v1_ r2 ∧ Below w.heap.size w w' := by
  have hu := Try.underlying34
  unfold impl_wordDigraph.f at h
  obtain ⟨⟨t1, t2⟩, hd, h⟩ := Option.bind_eq_some_iff.mp h
  obtain ⟨rfl, rfl⟩ : t1 = r1 ∧ t2 = r2 := by simpa using h
  clear h
  have HR := Aside0.mk hr0
  have HC := Aside0.mk hc0
  clear hr0 hc0
  have HB := Aside0.mk (((Below.refl w.heap.size w).alloc (Nat.le_refl _) (.cells #[.slice A0 l0.length c0] 28)).alloc (by simp) (.cells #[.int .i64 0, .slice none 0 0] 34))
  have HK := fun W hq => impl_directed.calls (impl_wordDigraph.is k l0) 77 #[.pointer (some ⟨w.heap.size, 0, none⟩)] (enters_of Try.func77 (by kernel_rfl) rfl) k (l0.length : Int) t1 t2 W hq hd
  clear hd
  go_enter Try.func50, Try.ntmps50
  go_wp2_with fail
  refine (HK _ ?hq).mono ?_
  case hq =>
    intro x y b W hb hxy
    exact impl_wordDigraph.lit k A0 c0 l0 w.heap.size x y b W (blk_below (blk_alloc (blk_new w (.cells #[.slice A0 l0.length c0] 28)) (.cells #[.int .i64 0, .slice none 0 0] 34)) hb) (Kd.C_below (Kd.C_below HR.out HB.out) hb) hxy
  rintro e w2 ⟨v1, rfl, hR, hb⟩
  have hB1 := blk_below (g := w.heap.size + 1) (o := .cells #[.int .i64 0, .slice none 0 0] 34 (0, 0)) (by have := blk_new (w.alloc (.cells #[.slice A0 l0.length c0] 28)) (.cells #[.int .i64 0, .slice none 0 0] 34); simpa using this) hb
  have HBB := Aside0.mk (below_then HB.out (by simp; omega) hb)
  have BK := Aside0.mk hB1
  have HO := Aside0.mk (Kd.R_lower (base' := w.heap.size) hR (by simp; omega))
  clear hR hb hB1 HB
  obtain ⟨Ao, co, eo⟩ := Kd.R_slice HO.out
  subst eo
  have hcz0 : w2.cell? ⟨w.heap.size + 1, 0, none⟩ = some (.int .i64 0) := (blk_cell BK.out 0).trans rfl
  have hcz1 : w2.cell? ⟨w.heap.size + 1, 1, none⟩ = some (.slice none 0 0) := (blk_cell BK.out 1).trans rfl
  have hfz0 := blk_frozen BK.out 0
  have hfz1 := blk_frozen BK.out 1
  go_wp2
  refine bodyPost_ret (results_cell_row rfl _ _ (w.heap.size + 1) 34 #[.int .i64 t1, .slice Ao t2.length co] (0, 0) _ rfl (by refine blk_put (cs := #[.int .i64 t1, .slice none 0 0]) ?_ 1 _ rfl; refine blk_put (cs := #[.int .i64 0, .slice none 0 0]) ?_ 0 _ rfl; exact BK.out) Try.underlying34 rfl (by kernel_rfl)) rfl ?_
  exact ⟨_, rfl, Kd.R_mono (Kd.R_far (p := ⟨w.heap.size + 1, 1, none⟩) (Kd.R_far (p := ⟨w.heap.size + 1, 0, none⟩) (Kd.R_types HO.out BK.out (by decide)) (fun _ hk => hk.2) (.int .i64 t1)) (fun _ hk => hk.2) (.slice Ao t2.length co)) (fun _ _ => trivial), below_set (below_set HBB.out (Nat.le_succ _)) (Nat.le_succ _)⟩

end Go.Proofs.Ytcffgfomicpbfaa.P
