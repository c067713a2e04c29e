-- Printed by a program of this workplace (wip/xp/xp.py) over the kit's print.
import Derived.Test.YtcffgfomicpbfaaDoorP0
import Derived.Test.YtcffgfomicpbfaaDoorP11
import Derived.Test.YtcffgfomicpbfaaDoorP14
import Derived.Test.YtcffgfomicpbfaaDoorP15
import Derived.Test.YtcffgfomicpbfaaDoorP25
namespace Go.Proofs.YtcffgfomicpbfaaDoor.P
open Go.RowKit Go.Proofs.YtcffgfomicpbfaaDoorW.PrintWords Go.Proofs.YtcffgfomicpbfaaDoorW.PrintLast Go.Proofs.YtcffgfomicpbfaaDoorW.PrintMore
attribute [local go_sem] max2_int min2_int max_two min_two max_three min_three max_four min_four   -- for this text's walks alone
set_option linter.unusedVariables false
set_option linter.unusedSimpArgs false

/-! ### impl_LineGraph: function 28 -/
def impl_LineGraph.is (l : List (List Int)) (v u : Int) : Option Bool := if 0 ≤ v then (if v < (l.length : Int) then (if 1 < ((rd_L1 l v).length : Int) then (if 0 ≤ u then (if u < (l.length : Int) then (if 1 < ((rd_L1 l u).length : Int) then some (rd (rd_L1 l v) 0 == rd (rd_L1 l u) 0 || (rd (rd_L1 l v) 0 == rd (rd_L1 l u) 1 || (rd (rd_L1 l v) 1 == rd (rd_L1 l u) 0 || rd (rd_L1 l v) 1 == rd (rd_L1 l u) 1))) else none) else none) else none) else none) else none) else none
set_option maxHeartbeats 4000000 in
theorem impl_LineGraph.lit (A : Option Addr) (c : Nat) (l : List (List Int)) (g : Nat) (v u : Int) (b : Bool) (W : World) (hB : W.heap[g]? = some (.cells #[.slice A l.length c] 26 (0, 0)))
    (hr : Kd.C (Kd.slice 2 (Kd.int .i64)) W A l.length l) (h : impl_LineGraph.is l v u = some b) :
    Calls Tryd.prog 53 #[.int .i64 v, .int .i64 u, .pointer (some ⟨g, 0, none⟩)] W fun e w' => e = .returned (.bool b) ∧ Below W.heap.size W w' := by
  have hx0 : W.cell? ⟨g, 0, none⟩ = some (.slice A l.length c) := (blk_cell hB 0).trans rfl
  clear hB
  unfold impl_LineGraph.is at h
  split at h
  case isFalse => cases h
  case isTrue p0 =>
  split at h
  case isFalse => cases h
  case isTrue p1 =>
  split at h
  case isFalse => cases h
  case isTrue p2 =>
  split at h
  case isFalse => cases h
  case isTrue p3 =>
  split at h
  case isFalse => cases h
  case isTrue p4 =>
  split at h
  case isFalse => cases h
  case isTrue p5 =>
  obtain rfl := Option.some.inj h
  clear h
  obtain ⟨ad, A0, c0, ea, hx1, hl1, hi1⟩ := at_L1 hr v p0 p1
  obtain ⟨ad', A1, c1, ea', hx2, hl2, hi2⟩ := at_L1 hr u p3 p4
  cases ea
  cases ea'
  obtain ⟨ad0, e0, ha0⟩ := Kd.at_int hi1 0 (by omega) (by omega)
  obtain ⟨ad0', e0', ha1⟩ := Kd.at_int hi1 1 (by omega) p2
  cases e0
  cases e0'
  obtain ⟨ad1, e1, hb0⟩ := Kd.at_int hi2 0 (by omega) (by omega)
  obtain ⟨ad1', e1', hb1⟩ := Kd.at_int hi2 1 (by omega) p5
  cases e1
  cases e1'
  have q2 : (1 < (rd_L1 l v).length) = True := eq_true (by omega)
  have q5 : (1 < (rd_L1 l u).length) = True := eq_true (by omega)
  have q2' : (0 < (rd_L1 l v).length) = True := eq_true (by omega)
  have q5' : (0 < (rd_L1 l u).length) = True := eq_true (by omega)
  obtain ⟨x0, hx0_⟩ : ∃ z, rd (rd_L1 l v) 0 = z := ⟨_, rfl⟩
  obtain ⟨x1, hx1_⟩ : ∃ z, rd (rd_L1 l v) 1 = z := ⟨_, rfl⟩
  obtain ⟨y0, hy0_⟩ : ∃ z, rd (rd_L1 l u) 0 = z := ⟨_, rfl⟩
  obtain ⟨y1, hy1_⟩ : ∃ z, rd (rd_L1 l u) 1 = z := ⟨_, rfl⟩
  rw [hx0_] at ha0
  rw [hx1_] at ha1
  rw [hy0_] at hb0
  rw [hy1_] at hb1
  rw [hx0_, hx1_, hy0_, hy1_]
  clear hx0_ hx1_ hy0_ hy1_ hr hi1 hi2
  generalize (rd_L1 l v).length = nv at *
  generalize (rd_L1 l u).length = nu at *
  replace ha0 : W.cell? ad0 = some (.int .i64 x0) := ha0
  replace ha1 : W.cell? ⟨ad0.block, ad0.off + 1, none⟩ = some (.int .i64 x1) := ha1
  replace hb0 : W.cell? ad1 = some (.int .i64 y0) := hb0
  replace hb1 : W.cell? ⟨ad1.block, ad1.off + 1, none⟩ = some (.int .i64 y1) := hb1
  replace p2 := eq_true p2
  replace p5 := eq_true p5
  replace p0 := eq_true p0
  replace p1 := eq_true p1
  replace p3 := eq_true p3
  replace p4 := eq_true p4
  clear hl1 hl2
  cases k0 : (x0 == y0) with
  | true =>
    go_enter Tryd.func53, Tryd.ntmps53
    go_wp2_with fail
    go_quiet (fail)
    go_wp2
    go_ret
    exact ⟨by first | rfl | (simp; done) | (simp [*]; done), by first | exact Below.refl _ _ | exact below_drew (Below.refl _ _) | exact pw_below_drewN (Below.refl _ _) _⟩
  | false =>
  cases k1 : (x0 == y1) with
  | true =>
    go_enter Tryd.func53, Tryd.ntmps53
    go_wp2_with fail
    go_quiet (fail)
    go_wp2
    go_ret
    exact ⟨by first | rfl | (simp; done) | (simp [*]; done), by first | exact Below.refl _ _ | exact below_drew (Below.refl _ _) | exact pw_below_drewN (Below.refl _ _) _⟩
  | false =>
  cases k2 : (x1 == y0) with
  | true =>
    go_enter Tryd.func53, Tryd.ntmps53
    go_wp2_with fail
    go_quiet (fail)
    go_wp2
    go_ret
    exact ⟨by first | rfl | (simp; done) | (simp [*]; done), by first | exact Below.refl _ _ | exact below_drew (Below.refl _ _) | exact pw_below_drewN (Below.refl _ _) _⟩
  | false =>
    go_enter Tryd.func53, Tryd.ntmps53
    go_wp2_with fail
    go_quiet (fail)
    go_wp2
    go_ret
    exact ⟨by first | rfl | (simp; done) | (simp [*]; done), by first | exact Below.refl _ _ | exact below_drew (Below.refl _ _) | exact pw_below_drewN (Below.refl _ _) _⟩
def impl_LineGraph.f (k : Nat) (a0_0 : Int) (l0_1 : List Int) : Option (Int × List Int × Int) := (impl_IsGraph.f k a0_0 l0_1).bind fun t => (if t = true then ((impl_Graph_edges.f k a0_0 l0_1).bind fun e => ((impl_limitedCode.f (e.length : Int)).bind fun cd => (if cd = 0 then ((impl_made.f (impl_LineGraph.is e) k (e.length : Int)).bind fun bt => (some (bt.1, bt.2, 0))) else (some (0, ([] : List Int), cd))))) else (some (0, ([] : List Int), 1)))
set_option maxHeartbeats 8000000 in
set_option maxRecDepth 100000 in
theorem impl_LineGraph.calls (k : Nat) (a0_0 : Int) (A0_1 : Option Addr) (c0_1 : Nat) (l0_1 : List Int) (r1 : Int) (r2 : List Int) (r3 : Int) (w : World) (hr0_1 : Kd.C (Kd.int .i64) w A0_1 l0_1.length l0_1) (hc0_1 : l0_1.length ≤ c0_1) (hT : TabW w) (h : impl_LineGraph.f k a0_0 l0_1 = some (r1, r2, r3)) :
    Calls Tryd.prog 28 #[.agg #[.int .i64 a0_0, .slice A0_1 l0_1.length c0_1]] w fun e w' => ∃ v1_ : Value, e = .returned (.tuple #[.agg #[.int .i64 r1, v1_], .int .i64 r3]) ∧ Kd.R (Kd.int .i64) 2 w' w.heap.size (fun _ => True) v1_ r2 ∧ Below w.heap.size w w' := by
  have hu := Tryd.underlying40
  unfold impl_LineGraph.f at h
  obtain ⟨t, A1, h⟩ := Option.bind_eq_some_iff.mp h
  have HR := Aside0.mk hr0_1
  have HC := Aside0.mk hc0_1
  have HT := Aside0.mk hT
  clear hr0_1 hc0_1 hT
  have H := Aside0.mk h
  clear h
  have HA1 := Aside0.mk A1
  clear A1
  have HB := Aside0.mk (((Below.refl w.heap.size w).alloc (Nat.le_refl _) (.cells #[.int .i64 a0_0, .slice A0_1 l0_1.length c0_1] 40)).alloc (by simp) (.cells #[.int .i64 0, .slice none 0 0] 40))
  go_enter Tryd.func28, Tryd.ntmps28
  go_wp2_with fail
  refine (impl_IsGraph.calls k a0_0 A0_1 c0_1 l0_1 t _ (Kd.C_below HR.out HB.out) HC.out HA1.out).mono ?_
  rintro e w2 ⟨rfl, hb2⟩
  have BKx := Aside0.mk (blk_below (g := w.heap.size) (o := .cells #[.int .i64 a0_0, .slice A0_1 l0_1.length c0_1] 40 (0, 0)) (blk_alloc (blk_new w _) (.cells #[.int .i64 0, .slice none 0 0] 40)) hb2)
  have BKr := Aside0.mk (blk_below (g := w.heap.size + 1) (o := .cells #[.int .i64 0, .slice none 0 0] 40 (0, 0)) (by have := blk_new (w.alloc (.cells #[.int .i64 a0_0, .slice A0_1 l0_1.length c0_1] 40)) (.cells #[.int .i64 0, .slice none 0 0] 40); simpa using this) hb2)
  have HBB := Aside0.mk (below_then HB.out (by simp; omega) hb2)
  clear HB hb2
  have hcz0 : w2.cell? ⟨w.heap.size + 1, 0, none⟩ = some (.int .i64 0) := (blk_cell BKr.out 0).trans rfl
  have hcz1 : w2.cell? ⟨w.heap.size + 1, 1, none⟩ = some (.slice none 0 0) := (blk_cell BKr.out 1).trans rfl
  have hfz0 := blk_frozen BKr.out 0
  have hfz1 := blk_frozen BKr.out 1
  have hcx0 : w2.cell? ⟨w.heap.size, 0, none⟩ = some (.int .i64 a0_0) := (blk_cell BKx.out 0).trans rfl
  have hcx1 : w2.cell? ⟨w.heap.size, 1, none⟩ = some (.slice A0_1 l0_1.length c0_1) := (blk_cell BKx.out 1).trans rfl
  cases t with
  | false =>
    have h := H.out
    rw [if_neg (by decide)] at h
    simp only [Option.some.injEq, Prod.mk.injEq] at h
    obtain ⟨rfl, rfl, rfl⟩ := h
    go_wp2
    refine bodyPost_ret (results_ct rfl _ _ (w.heap.size + 1) 40 #[.int .i64 0, .slice none 0 0] (0, 0) _ rfl (by refine blk_put (cs := #[.int .i64 0, .slice none 0 0]) ?_ 1 _ rfl; refine blk_put (cs := #[.int .i64 0, .slice none 0 0]) ?_ 0 _ rfl; exact BKr.out) Tryd.underlying40 rfl (by kernel_rfl)) rfl ?_
    exact ⟨_, by first | rfl | (simp [errW_none, errW_some] <;> rfl) | (simp [*, errW_none, errW_some] <;> rfl), Kd.R_nil _ _ _ _ _, below_set (below_set HBB.out (Nat.le_succ _)) (Nat.le_succ _)⟩
  | true =>
    have h := H.out
    rw [if_pos rfl] at h
    obtain ⟨es, A2, h⟩ := Option.bind_eq_some_iff.mp h
    obtain ⟨cd, A3, h⟩ := Option.bind_eq_some_iff.mp h
    have HA2 := Aside0.mk A2
    have HA3 := Aside0.mk A3
    clear A2 A3
    have H2 := Aside0.mk h
    clear h H
    go_wp2_with fail
    refine (impl_Graph_edges.calls k a0_0 A0_1 c0_1 l0_1 es _ (Kd.C_below HR.out HBB.out) HC.out (TabW.below HT.out HBB.out) HA2.out).mono ?_
    rintro e w3 ⟨v0, rfl, hS, hb3⟩
    obtain ⟨Ao, co, eo⟩ := Kd.R_slice (Kd.S_R hS)
    subst eo
    have BKs := Aside0.mk (blk_below BKr.out hb3)
    have HB3 := Aside0.mk (below_then HBB.out (below_size HBB.out) hb3)
    have HS := Aside0.mk hS
    clear hS hb3 hcz0 hcz1 hfz0 hfz1 hcx0 hcx1 BKx BKr
    have hlt := blk_lt BKs.out
    go_wp2_with fail
    refine (impl_limitedCode.calls (es.length : Int) cd _ HA3.out).mono ?_
    rintro e w4 ⟨rfl, hd4⟩
    have hb4 := hd4.below
    clear hd4
    have BKe := Aside0.mk (blk_below (blk_new w3 (.cells #[.slice Ao es.length co] 26)) hb4)
    have BKt := Aside0.mk (blk_below (blk_alloc BKs.out (.cells #[.slice Ao es.length co] 26)) hb4)
    have HSC := Aside0.mk (Kd.C_below (Kd.C_alloc (Kd.S_reads' HS.out).2.2 (.cells #[.slice Ao es.length co] 26)) hb4)
    have HB4 := Aside0.mk (below_then (below_alloc HB3.out _) (by have := below_size HB3.out; simp; omega) hb4)
    have h3 := below_size HB3.out
    clear hb4 BKs HS
    have hcz0 : w4.cell? ⟨w.heap.size + 1, 0, none⟩ = some (.int .i64 0) := (blk_cell BKt.out 0).trans rfl
    have hcz1 : w4.cell? ⟨w.heap.size + 1, 1, none⟩ = some (.slice none 0 0) := (blk_cell BKt.out 1).trans rfl
    have hfz0 := blk_frozen BKt.out 0
    have hfz1 := blk_frozen BKt.out 1
    have hce : w4.cell? ⟨w3.heap.size, 0, none⟩ = some (.slice Ao es.length co) := (blk_cell BKe.out 0).trans rfl
    by_cases c1 : cd = 0
    case neg =>
      have h := H2.out
      rw [if_neg c1] at h
      simp only [Option.some.injEq, Prod.mk.injEq] at h
      obtain ⟨rfl, rfl, rfl⟩ := h
      have d1 : (cd != 0) = true := bne_iff_ne.mpr c1
      clear c1
      go_wp2
      refine bodyPost_ret (results_ct rfl _ _ (w.heap.size + 1) 40 #[.int .i64 0, .slice none 0 0] (0, 0) _ rfl (by refine blk_put (cs := #[.int .i64 0, .slice none 0 0]) ?_ 1 _ rfl; refine blk_put (cs := #[.int .i64 0, .slice none 0 0]) ?_ 0 _ rfl; exact BKt.out) Tryd.underlying40 rfl (by kernel_rfl)) rfl ?_
      exact ⟨_, by first | rfl | (simp [errW_none, errW_some] <;> rfl) | (simp [*, errW_none, errW_some] <;> rfl), Kd.R_nil _ _ _ _ _, below_set (below_set HB4.out (Nat.le_succ _)) (Nat.le_succ _)⟩
    case pos =>
    have h := H2.out
    rw [if_pos c1] at h
    have d1 : (cd != 0) = false := bne_eq_false_iff_eq.mpr c1
    clear c1
    obtain ⟨⟨t1, t2⟩, hd, h⟩ := Option.bind_eq_some_iff.mp h
    obtain ⟨rfl, rfl, rfl⟩ : t1 = r1 ∧ t2 = r2 ∧ 0 = r3 := by simpa using h
    clear h
    have HK := fun W hq => impl_made.calls (impl_LineGraph.is es) 53 #[.pointer (some ⟨w3.heap.size, 0, none⟩)] (enters_of Tryd.func53 (by kernel_rfl) rfl) k (es.length : Int) t1 t2 W hq hd
    clear hd
    go_wp2_with fail
    refine (HK _ ?hq).mono ?_
    case hq =>
      intro x y b W hb hxy
      exact impl_LineGraph.lit Ao co es w3.heap.size x y b W (blk_below BKe.out hb) (Kd.C_below HSC.out hb) hxy
    rintro e w5 ⟨v1, rfl, hR, hb⟩
    have BKu := Aside0.mk (blk_below BKt.out hb)
    have HB5 := Aside0.mk (below_then HB4.out (below_size HB4.out) hb)
    have HO := Aside0.mk (Kd.R_lower (base' := w.heap.size) hR (below_size HB4.out))
    clear hR hb hcz0 hcz1 hfz0 hfz1 hce
    obtain ⟨Ap, cp, ep⟩ := Kd.R_slice HO.out
    subst ep
    have hcz0 : w5.cell? ⟨w.heap.size + 1, 0, none⟩ = some (.int .i64 0) := (blk_cell BKu.out 0).trans rfl
    have hcz1 : w5.cell? ⟨w.heap.size + 1, 1, none⟩ = some (.slice none 0 0) := (blk_cell BKu.out 1).trans rfl
    have hfz0 := blk_frozen BKu.out 0
    have hfz1 := blk_frozen BKu.out 1
    go_wp2
    refine bodyPost_ret (results_ct rfl _ _ (w.heap.size + 1) 40 #[.int .i64 t1, .slice Ap t2.length cp] (0, 0) _ rfl (by refine blk_put (cs := #[.int .i64 t1, .slice none 0 0]) ?_ 1 _ rfl; refine blk_put (cs := #[.int .i64 0, .slice none 0 0]) ?_ 0 _ rfl; exact BKu.out) Tryd.underlying40 rfl (by kernel_rfl)) rfl ?_
    exact ⟨_, by first | rfl | (simp [errW_none, errW_some] <;> rfl) | (simp [*, errW_none, errW_some] <;> rfl), Kd.R_mono (Kd.R_far (p := ⟨w.heap.size + 1, 1, none⟩) (Kd.R_far (p := ⟨w.heap.size + 1, 0, none⟩) (Kd.R_types HO.out BKu.out (by decide)) (fun _ hk => hk.2) (.int .i64 t1)) (fun _ hk => hk.2) (.slice Ap t2.length cp)) (fun _ _ => trivial), below_set (below_set HB5.out (Nat.le_succ _)) (Nat.le_succ _)⟩

end Go.Proofs.YtcffgfomicpbfaaDoor.P
