-- Printed by a program of this workplace (wip/xp/xp.py) over the kit's print.
import Derived.Test.YtcffgfomicpbfaaDoorP0
import Derived.Test.YtcffgfomicpbfaaDoorP13
import Derived.Test.YtcffgfomicpbfaaDoorP16
import Derived.Test.YtcffgfomicpbfaaDoorP17
namespace Go.Proofs.YtcffgfomicpbfaaDoor.P
open Go.RowKit Go.Proofs.YtcffgfomicpbfaaDoorW.PrintWords Go.Proofs.YtcffgfomicpbfaaDoorW.PrintLast Go.Proofs.YtcffgfomicpbfaaDoorW.PrintMore
attribute [local go_sem] max2_int min2_int max_two min_two max_three min_three max_four min_four   -- for this text's walks alone
set_option linter.unusedVariables false
set_option linter.unusedSimpArgs false

/-! ### impl_LineDigraph: function 18 -/
def impl_LineDigraph.is (l : List (List Int)) (v u : Int) : Option Bool := if 0 ≤ v then (if v < (l.length : Int) then (if 1 < ((rd_L1 l v).length : Int) then (if 0 ≤ u then (if u < (l.length : Int) then (if 0 < ((rd_L1 l u).length : Int) then some (rd (rd_L1 l v) 1 == rd (rd_L1 l u) 0) else none) else none) else none) else none) else none) else none
set_option maxHeartbeats 2000000 in
theorem impl_LineDigraph.lit (A : Option Addr) (c : Nat) (l : List (List Int)) (g : Nat) (v u : Int) (b : Bool) (W : World) (hB : W.heap[g]? = some (.cells #[.slice A l.length c] 26 (0, 0)))
    (hr : Kd.C (Kd.slice 2 (Kd.int .i64)) W A l.length l) (h : impl_LineDigraph.is l v u = some b) :
    Calls Tryd.prog 41 #[.int .i64 v, .int .i64 u, .pointer (some ⟨g, 0, none⟩)] W fun e w' => e = .returned (.bool b) ∧ Below W.heap.size W w' := by
  have hx0 : W.cell? ⟨g, 0, none⟩ = some (.slice A l.length c) := (blk_cell hB 0).trans rfl
  clear hB
  unfold impl_LineDigraph.is at h
  split at h
  case isFalse => cases h
  case isTrue p0 =>
  split at h
  case isFalse => cases h
  case isTrue p1 =>
  split at h
  case isFalse => cases h
  case isTrue p2 =>
  split at h
  case isFalse => cases h
  case isTrue p3 =>
  split at h
  case isFalse => cases h
  case isTrue p4 =>
  split at h
  case isFalse => cases h
  case isTrue p5 =>
  obtain rfl := Option.some.inj h
  clear h
  obtain ⟨ad, A0, c0, ea, hx1, hl1, hi1⟩ := at_L1 hr v p0 p1
  obtain ⟨ad', A1, c1, ea', hx2, hl2, hi2⟩ := at_L1 hr u p3 p4
  cases ea
  cases ea'
  obtain ⟨ad0, e0, hc0⟩ := Kd.at_int hi1 1 (by omega) p2
  obtain ⟨ad1, e1, hc1⟩ := Kd.at_int hi2 0 (by omega) p5
  cases e0
  cases e1
  replace hc0 : W.cell? ⟨ad0.block, ad0.off + 1, none⟩ = some (.int .i64 (rd (rd_L1 l v) 1)) := hc0
  replace hc1 : W.cell? ad1 = some (.int .i64 (rd (rd_L1 l u) 0)) := hc1
  have q2 : (1 < (rd_L1 l v).length) = True := eq_true (by omega)
  have q5 : (0 < (rd_L1 l u).length) = True := eq_true (by omega)
  clear hr hi1 hi2
  replace p2 := eq_true p2
  replace p5 := eq_true p5
  replace p0 := eq_true p0
  replace p1 := eq_true p1
  replace p3 := eq_true p3
  replace p4 := eq_true p4
  go_enter Tryd.func41, Tryd.ntmps41
  go_wp2
  go_region_held3 (fun w_ => w_.cell? ⟨g, 0, none⟩ = some (.slice (some ad) l.length c) ∧ w_.cell? (ad.add v.toNat) = some (.slice (some ad0) (rd_L1 l v).length c0) ∧ w_.cell? (ad.add u.toNat) = some (.slice (some ad1) (rd_L1 l u).length c1) ∧ w_.cell? ⟨ad0.block, ad0.off + 1, none⟩ = some (.int .i64 (rd (rd_L1 l v) 1)) ∧ w_.cell? ad1 = some (.int .i64 (rd (rd_L1 l u) 0))) (go_keep) (fail)
  all_goals go_wp2
  go_ret
  exact ⟨by first | rfl | (simp; done) | (simp [*]; done), by first | exact Below.refl _ _ | exact below_drew (Below.refl _ _) | exact pw_below_drewN (Below.refl _ _) _⟩
def impl_LineDigraph.f (k : Nat) (a0_0 : Int) (l0_1 : List Int) : Option (Int × List Int × Int) := (impl_IsDigraph.f a0_0 l0_1).bind fun t => (if t = true then ((impl_Digraph_arcs.f k a0_0 l0_1).bind fun e => (if (e.length : Int) = 0 then (some (0, ([] : List Int), 5)) else (if (e.length : Int) > 62 then (some (0, ([] : List Int), 3)) else ((impl_directed.f (impl_LineDigraph.is e) k (e.length : Int)).bind fun bt => (some (bt.1, bt.2, 0)))))) else (some (0, ([] : List Int), 1)))
set_option maxHeartbeats 8000000 in
set_option maxRecDepth 100000 in
theorem impl_LineDigraph.calls (k : Nat) (a0_0 : Int) (A0_1 : Option Addr) (c0_1 : Nat) (l0_1 : List Int) (r1 : Int) (r2 : List Int) (r3 : Int) (w : World) (hr0_1 : Kd.C (Kd.int .i64) w A0_1 l0_1.length l0_1) (hc0_1 : l0_1.length ≤ c0_1) (hT : TabW w) (h : impl_LineDigraph.f k a0_0 l0_1 = some (r1, r2, r3)) :
    Calls Tryd.prog 18 #[.agg #[.int .i64 a0_0, .slice A0_1 l0_1.length c0_1]] w fun e w' => ∃ v1_ : Value, e = .returned (.tuple #[.agg #[.int .i64 r1, v1_], .int .i64 r3]) ∧ Kd.R (Kd.int .i64) 2 w' w.heap.size (fun _ => True) v1_ r2 ∧ Below w.heap.size w w' := by
  have hu := Tryd.underlying29
  unfold impl_LineDigraph.f at h
  obtain ⟨t, A1, h⟩ := Option.bind_eq_some_iff.mp h
  have HR := Aside0.mk hr0_1
  have HC := Aside0.mk hc0_1
  have HT := Aside0.mk hT
  clear hr0_1 hc0_1 hT
  have H := Aside0.mk h
  clear h
  have HA1 := Aside0.mk A1
  clear A1
  have HB := Aside0.mk (((Below.refl w.heap.size w).alloc (Nat.le_refl _) (.cells #[.int .i64 a0_0, .slice A0_1 l0_1.length c0_1] 29)).alloc (by simp) (.cells #[.int .i64 0, .slice none 0 0] 29))
  go_enter Tryd.func18, Tryd.ntmps18
  go_wp2_with fail
  refine (impl_IsDigraph.calls a0_0 A0_1 c0_1 l0_1 t _ (Kd.C_below HR.out HB.out) HC.out HA1.out).mono ?_
  rintro e w2 ⟨rfl, hb2⟩
  have BKx := Aside0.mk (blk_below (g := w.heap.size) (o := .cells #[.int .i64 a0_0, .slice A0_1 l0_1.length c0_1] 29 (0, 0)) (blk_alloc (blk_new w _) (.cells #[.int .i64 0, .slice none 0 0] 29)) hb2)
  have BKr := Aside0.mk (blk_below (g := w.heap.size + 1) (o := .cells #[.int .i64 0, .slice none 0 0] 29 (0, 0)) (by have := blk_new (w.alloc (.cells #[.int .i64 a0_0, .slice A0_1 l0_1.length c0_1] 29)) (.cells #[.int .i64 0, .slice none 0 0] 29); simpa using this) hb2)
  have HBB := Aside0.mk (below_then HB.out (by simp; omega) hb2)
  clear HB hb2
  have hcz0 : w2.cell? ⟨w.heap.size + 1, 0, none⟩ = some (.int .i64 0) := (blk_cell BKr.out 0).trans rfl
  have hcz1 : w2.cell? ⟨w.heap.size + 1, 1, none⟩ = some (.slice none 0 0) := (blk_cell BKr.out 1).trans rfl
  have hfz0 := blk_frozen BKr.out 0
  have hfz1 := blk_frozen BKr.out 1
  have hcx0 : w2.cell? ⟨w.heap.size, 0, none⟩ = some (.int .i64 a0_0) := (blk_cell BKx.out 0).trans rfl
  have hcx1 : w2.cell? ⟨w.heap.size, 1, none⟩ = some (.slice A0_1 l0_1.length c0_1) := (blk_cell BKx.out 1).trans rfl
  cases t with
  | false =>
    have h := H.out
    rw [if_neg (by decide)] at h
    simp only [Option.some.injEq, Prod.mk.injEq] at h
    obtain ⟨rfl, rfl, rfl⟩ := h
    go_wp2
    refine bodyPost_ret (results_ct rfl _ _ (w.heap.size + 1) 29 #[.int .i64 0, .slice none 0 0] (0, 0) _ rfl (by refine blk_put (cs := #[.int .i64 0, .slice none 0 0]) ?_ 1 _ rfl; refine blk_put (cs := #[.int .i64 0, .slice none 0 0]) ?_ 0 _ rfl; exact BKr.out) Tryd.underlying29 rfl (by kernel_rfl)) rfl ?_
    exact ⟨_, by first | rfl | (simp [errW_none, errW_some] <;> rfl) | (simp [*, errW_none, errW_some] <;> rfl), Kd.R_nil _ _ _ _ _, below_set (below_set HBB.out (Nat.le_succ _)) (Nat.le_succ _)⟩
  | true =>
    have h := H.out
    rw [if_pos rfl] at h
    obtain ⟨es, A2, h⟩ := Option.bind_eq_some_iff.mp h
    have HA2 := Aside0.mk A2
    clear A2
    have H2 := Aside0.mk h
    clear h H
    go_wp2_with fail
    refine (impl_Digraph_arcs.calls k a0_0 A0_1 c0_1 l0_1 es _ (Kd.C_below HR.out HBB.out) HC.out (TabW.below HT.out HBB.out) HA2.out).mono ?_
    rintro e w3 ⟨v0, rfl, hS, hb3⟩
    obtain ⟨Ao, co, eo⟩ := Kd.R_slice (Kd.S_R hS)
    subst eo
    have BKy := Aside0.mk (blk_below BKx.out hb3)
    have BKs := Aside0.mk (blk_below BKr.out hb3)
    have HB3 := Aside0.mk (below_then HBB.out (below_size HBB.out) hb3)
    have HS := Aside0.mk hS
    clear hS hb3 hcz0 hcz1 hfz0 hfz1 hcx0 hcx1 BKx BKr
    have hcz0 : w3.cell? ⟨w.heap.size + 1, 0, none⟩ = some (.int .i64 0) := (blk_cell BKs.out 0).trans rfl
    have hcz1 : w3.cell? ⟨w.heap.size + 1, 1, none⟩ = some (.slice none 0 0) := (blk_cell BKs.out 1).trans rfl
    have hfz0 := blk_frozen BKs.out 0
    have hfz1 := blk_frozen BKs.out 1
    have hlt := blk_lt BKs.out
    by_cases c1 : (es.length : Int) = 0
    · have h := H2.out
      rw [if_pos c1] at h
      simp only [Option.some.injEq, Prod.mk.injEq] at h
      obtain ⟨rfl, rfl, rfl⟩ := h
      have d1 : ((es.length : Int) == 0) = true := beq_iff_eq.mpr c1
      clear c1
      go_wp2
      refine bodyPost_ret (results_ct rfl _ _ (w.heap.size + 1) 29 #[.int .i64 0, .slice none 0 0] (0, 0) _ rfl (by refine blk_alloc ?_ _; refine blk_put (cs := #[.int .i64 0, .slice none 0 0]) ?_ 1 _ rfl; refine blk_put (cs := #[.int .i64 0, .slice none 0 0]) ?_ 0 _ rfl; exact BKs.out) Tryd.underlying29 rfl (by kernel_rfl)) rfl ?_
      exact ⟨_, by first | rfl | (simp [errW_none, errW_some] <;> rfl) | (simp [*, errW_none, errW_some] <;> rfl), Kd.R_nil _ _ _ _ _, below_alloc (below_set (below_set HB3.out (Nat.le_succ _)) (Nat.le_succ _)) _⟩
    have d1 : ((es.length : Int) == 0) = false := beq_eq_false_iff_ne.mpr c1
    have h := H2.out
    rw [if_neg c1] at h
    clear c1
    by_cases c2 : (es.length : Int) > 62
    · rw [if_pos c2] at h
      simp only [Option.some.injEq, Prod.mk.injEq] at h
      obtain ⟨rfl, rfl, rfl⟩ := h
      have d2 : decide (62 < (es.length : Int)) = true := decide_eq_true c2
      clear c2
      go_wp2
      refine bodyPost_ret (results_ct rfl _ _ (w.heap.size + 1) 29 #[.int .i64 0, .slice none 0 0] (0, 0) _ rfl (by refine blk_alloc ?_ _; refine blk_put (cs := #[.int .i64 0, .slice none 0 0]) ?_ 1 _ rfl; refine blk_put (cs := #[.int .i64 0, .slice none 0 0]) ?_ 0 _ rfl; exact BKs.out) Tryd.underlying29 rfl (by kernel_rfl)) rfl ?_
      exact ⟨_, by first | rfl | (simp [errW_none, errW_some] <;> rfl) | (simp [*, errW_none, errW_some] <;> rfl), Kd.R_nil _ _ _ _ _, below_alloc (below_set (below_set HB3.out (Nat.le_succ _)) (Nat.le_succ _)) _⟩
    rw [if_neg c2] at h
    have d2 : decide (62 < (es.length : Int)) = false := decide_eq_false c2
    clear c2
    obtain ⟨⟨t1, t2⟩, hd, h⟩ := Option.bind_eq_some_iff.mp h
    obtain ⟨rfl, rfl, rfl⟩ : t1 = r1 ∧ t2 = r2 ∧ 0 = r3 := by simpa using h
    clear h
    have HK := fun W hq => impl_directed.calls (impl_LineDigraph.is es) 41 #[.pointer (some ⟨w3.heap.size, 0, none⟩)] (enters_of Tryd.func41 (by kernel_rfl) rfl) k (es.length : Int) t1 t2 W hq hd
    clear hd
    go_wp2_with fail
    have h3 := below_size HB3.out
    refine (HK _ ?hq).mono ?_
    case hq =>
      intro x y b W hb hxy
      exact impl_LineDigraph.lit Ao co es w3.heap.size x y b W (blk_below (blk_new w3 (.cells #[.slice Ao es.length co] 26)) hb) (Kd.C_below (Kd.C_alloc (Kd.S_reads' HS.out).2.2 _) hb) hxy
    rintro e w4 ⟨v1, rfl, hR, hb⟩
    have BKt := Aside0.mk (blk_below (blk_alloc BKs.out (.cells #[.slice Ao es.length co] 26)) hb)
    have HB4 := Aside0.mk (below_then (below_alloc HB3.out _) (by simp; omega) hb)
    have HO := Aside0.mk (Kd.R_lower (base' := w.heap.size) hR (by simp; omega))
    clear hR hb hcz0 hcz1 hfz0 hfz1
    obtain ⟨Ap, cp, ep⟩ := Kd.R_slice HO.out
    subst ep
    have hcz0 : w4.cell? ⟨w.heap.size + 1, 0, none⟩ = some (.int .i64 0) := (blk_cell BKt.out 0).trans rfl
    have hcz1 : w4.cell? ⟨w.heap.size + 1, 1, none⟩ = some (.slice none 0 0) := (blk_cell BKt.out 1).trans rfl
    have hfz0 := blk_frozen BKt.out 0
    have hfz1 := blk_frozen BKt.out 1
    go_wp2
    refine bodyPost_ret (results_ct rfl _ _ (w.heap.size + 1) 29 #[.int .i64 t1, .slice Ap t2.length cp] (0, 0) _ rfl (by refine blk_put (cs := #[.int .i64 t1, .slice none 0 0]) ?_ 1 _ rfl; refine blk_put (cs := #[.int .i64 0, .slice none 0 0]) ?_ 0 _ rfl; exact BKt.out) Tryd.underlying29 rfl (by kernel_rfl)) rfl ?_
    exact ⟨_, by first | rfl | (simp [errW_none, errW_some] <;> rfl) | (simp [*, errW_none, errW_some] <;> rfl), Kd.R_mono (Kd.R_far (p := ⟨w.heap.size + 1, 1, none⟩) (Kd.R_far (p := ⟨w.heap.size + 1, 0, none⟩) (Kd.R_types HO.out BKt.out (by decide)) (fun _ hk => hk.2) (.int .i64 t1)) (fun _ hk => hk.2) (.slice Ap t2.length cp)) (fun _ _ => trivial), below_set (below_set HB4.out (Nat.le_succ _)) (Nat.le_succ _)⟩

end Go.Proofs.YtcffgfomicpbfaaDoor.P
