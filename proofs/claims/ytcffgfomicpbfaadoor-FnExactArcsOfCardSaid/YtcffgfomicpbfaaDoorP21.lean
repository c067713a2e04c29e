-- Printed by a program of this workplace (wip/xp/xp.py) over the kit's print.
import Derived.Test.YtcffgfomicpbfaaDoorP0
import Derived.Test.YtcffgfomicpbfaaDoorP1
import Derived.Test.YtcffgfomicpbfaaDoorP6
import Derived.Test.YtcffgfomicpbfaaDoorP8
import Derived.Test.YtcffgfomicpbfaaDoorP13
import Derived.Test.YtcffgfomicpbfaaDoorP15
import Derived.Test.YtcffgfomicpbfaaDoorP16
import Derived.Test.YtcffgfomicpbfaaDoorP17
import Derived.Test.YtcffgfomicpbfaaDoorP18
import Derived.Test.YtcffgfomicpbfaaDoorP20
namespace Go.Proofs.YtcffgfomicpbfaaDoor.P
open Go.RowKit Go.Proofs.YtcffgfomicpbfaaDoorW.PrintWords Go.Proofs.YtcffgfomicpbfaaDoorW.PrintLast Go.Proofs.YtcffgfomicpbfaaDoorW.PrintMore
attribute [local go_sem] max2_int min2_int max_two min_two max_three min_three max_four min_four   -- for this text's walks alone
set_option linter.unusedVariables false
set_option linter.unusedSimpArgs false

/-! ### laws_FnExactArcsOf: function 3 -/
/-- What the law comes to on its good path (elsewhere nothing is said). -/
def laws_FnExactArcsOf.f (k : Nat) (a0_0 : Int) (l0_1 : List Int) : Option Bool := (laws_szDigraph.f a0_0 l0_1 1048576).bind fun t => (if t < 0 then (some true) else ((laws_toDigraph.f k a0_0 l0_1).bind fun d => (spec_ArcsOf.f k d.1 d.2).bind fun w => (impl_ArcsOf.f k d.1 d.2).bind fun g => (laws_eqInt64SS.f k g.1 w.1).bind fun e1 => (laws_eqDigraph.f k d.1 d.2 d.1 d.2).bind fun e2 => (laws_markDigraph.f k d.1 d.2 1).bind fun mk => (laws_markInt64SS.f k g.1 1).bind fun m => (laws_heldInt64SS.f k m.2 1).bind fun q => (if e1 = true ∧ g.2 = w.2 ∧ e2 = true ∧ 0 ≤ mk.1 ∧ 0 ≤ q ∧ q = m.1 then (some true) else none)))
set_option maxHeartbeats 8000000 in
set_option maxRecDepth 100000 in
theorem laws_FnExactArcsOf.calls (k : Nat) (a0_0 : Int) (A0_1 : Option Addr) (c0_1 : Nat) (l0_1 : List Int) (r : Bool) (w : World) (hr0_1 : Kd.C (Kd.int .i64) w A0_1 l0_1.length l0_1) (hc0_1 : l0_1.length ≤ c0_1) (hT : TabW w) (h : laws_FnExactArcsOf.f k a0_0 l0_1 = some r) :
    Calls Tryd.prog 3 #[.agg #[.int .i64 a0_0, .slice A0_1 l0_1.length c0_1]] w fun e w' => e = .returned (.bool r) ∧ Below w.heap.size w w' := by
  have HR := Aside0.mk hr0_1
  have HC := Aside0.mk hc0_1
  have HT := Aside0.mk hT
  clear hr0_1 hc0_1 hT
  unfold laws_FnExactArcsOf.f at h
  obtain ⟨t, A1, h⟩ := Option.bind_eq_some_iff.mp h
  have HA1 := Aside0.mk A1
  clear A1
  have H := Aside0.mk h
  clear h
  have HB := Aside0.mk (below_alloc (Below.refl w.heap.size w) (.cells #[.int .i64 a0_0, .slice A0_1 l0_1.length c0_1] 24))
  go_enter Tryd.func3, Tryd.ntmps3
  go_wp2_with fail
  refine (laws_szDigraph.calls a0_0 A0_1 c0_1 l0_1 1048576 t _ (Kd.C_alloc HR.out _) HC.out HA1.out).mono ?_
  rintro e w1 ⟨rfl, hb⟩
  have BX := Aside0.mk (blk_below (blk_new w (.cells #[.int .i64 a0_0, .slice A0_1 l0_1.length c0_1] 24)) hb)
  have n_HB := Aside0.mk (below_then HB.out (below_size HB.out) hb)
  clear HB
  have HB := n_HB
  clear n_HB
  clear hb
  have hcx0 : w1.cell? ⟨w.heap.size, 0, none⟩ = some (.int .i64 a0_0) := (blk_cell BX.out 0).trans rfl
  have hcx1 : w1.cell? ⟨w.heap.size, 1, none⟩ = some (.slice A0_1 l0_1.length c0_1) := (blk_cell BX.out 1).trans rfl
  by_cases c : t < 0
  case pos =>
    have h := H.out
    rw [if_pos c] at h
    obtain rfl := Option.some.inj h
    have d : decide (t < 0) = true := decide_eq_true c
    clear c
    go_wp2
    go_ret
    exact ⟨by first | rfl | (simp; done) | (simp [*]; done), HB.out⟩
  case neg =>
  have h := H.out
  rw [if_neg c] at h
  have d : decide (t < 0) = false := decide_eq_false c
  clear c H
  obtain ⟨⟨d1, d2⟩, A2, h⟩ := Option.bind_eq_some_iff.mp h
  obtain ⟨⟨ws, wc⟩, A3, h⟩ := Option.bind_eq_some_iff.mp h
  obtain ⟨⟨gs, gc⟩, A4, h⟩ := Option.bind_eq_some_iff.mp h
  obtain ⟨e1, A5, h⟩ := Option.bind_eq_some_iff.mp h
  obtain ⟨e2, A6, h⟩ := Option.bind_eq_some_iff.mp h
  obtain ⟨⟨k1, k2⟩, A7, h⟩ := Option.bind_eq_some_iff.mp h
  obtain ⟨⟨m1, m2⟩, A8, h⟩ := Option.bind_eq_some_iff.mp h
  obtain ⟨q, A9, h⟩ := Option.bind_eq_some_iff.mp h
  dsimp only at A2 A3 A4 A5 A6 A7 A8 A9 h
  by_cases z : e1 = true ∧ gc = wc ∧ e2 = true ∧ 0 ≤ k1 ∧ 0 ≤ q ∧ q = m1
  case neg => rw [if_neg z] at h; cases h
  case pos =>
  rw [if_pos z] at h
  obtain rfl := Option.some.inj h
  clear h
  obtain ⟨rfl, rfl, rfl, hk1, hq0, rfl⟩ := z
  have HA2 := Aside0.mk A2
  have HA3 := Aside0.mk A3
  have HA4 := Aside0.mk A4
  have HA5 := Aside0.mk A5
  have HA6 := Aside0.mk A6
  have HA7 := Aside0.mk A7
  have HA8 := Aside0.mk A8
  have HA9 := Aside0.mk A9
  clear A2 A3 A4 A5 A6 A7 A8 A9
  have dk : decide (k1 < 0) = false := decide_eq_false (by omega)
  have dq : decide (q < 0) = false := decide_eq_false (by omega)
  clear hk1 hq0
  go_wp2_with fail
  refine (laws_toDigraph.calls k a0_0 A0_1 c0_1 l0_1 d1 d2 _ (Kd.C_below HR.out HB.out) HC.out HA2.out).mono ?_
  rintro e w2 ⟨vd, rfl, hd, hb⟩
  obtain ⟨Ad, cd, rfl⟩ := Kd.R_slice hd
  have HD := Aside0.mk hd
  clear hd
  clear hcx0 hcx1
  have n_BX := Aside0.mk (blk_below BX.out hb)
  have n_HB := Aside0.mk (below_then HB.out (below_size HB.out) hb)
  clear BX
  clear HB
  have BX := n_BX
  clear n_BX
  have HB := n_HB
  clear n_HB
  clear hb
  go_wp2_with fail
  refine (spec_ArcsOf.calls k d1 Ad cd d2 ws gc _ (Kd.R_reads' HD.out).2.2 (Kd.R_reads' HD.out).2.1 HA3.out).mono ?_
  rintro e w3 ⟨vw, rfl, hd, hb⟩
  obtain ⟨Aw, cw, rfl⟩ := Kd.S_slice hd
  have HW := Aside0.mk (show Kd.S (Kd.slice 2 (Kd.int .i64)) 22 w3 w.heap.size (fun k_ => k_ < w3.heap.size) _ ws from Kd.S_lower (Kd.S_mono (Kd.S_bound hd) (fun k_ hk => hk.2.2.1)) (below_size HB.out))
  clear hd HD
  have n_BX := Aside0.mk (blk_below BX.out hb)
  have n_HB := Aside0.mk (below_then HB.out (below_size HB.out) hb)
  clear BX
  clear HB
  have BX := n_BX
  clear n_BX
  have HB := n_HB
  clear n_HB
  clear hb
  have hcx0 : w3.cell? ⟨w.heap.size, 0, none⟩ = some (.int .i64 a0_0) := (blk_cell BX.out 0).trans rfl
  have hcx1 : w3.cell? ⟨w.heap.size, 1, none⟩ = some (.slice A0_1 l0_1.length c0_1) := (blk_cell BX.out 1).trans rfl
  go_wp2_with fail
  refine (laws_toDigraph.calls k a0_0 A0_1 c0_1 l0_1 d1 d2 _ (Kd.C_below HR.out HB.out) HC.out HA2.out).mono ?_
  rintro e w4 ⟨vx, rfl, hd, hb⟩
  obtain ⟨Ax, cx, rfl⟩ := Kd.R_slice hd
  have HXO := Aside0.mk (show ∀ k_, (Value.slice Ax d2.length cx).ownBlock = some k_ → w3.heap.size ≤ k_ ∧ k_ < w4.heap.size from fun k_ hk => ⟨Kd.R_base hd k_ hk, Kd.R_lt hd k_ hk⟩)
  have HX := Aside0.mk (Kd.R_lower hd (below_size HB.out))
  clear hd
  have h34 := below_size hb
  have hN3 := below_size HB.out
  have hN := blk_lt BX.out
  clear hcx0 hcx1
  have n_BX := Aside0.mk (blk_below BX.out hb)
  have n_HW := Aside0.mk (Kd.S_below HW.out hb)
  have n_HB := Aside0.mk (below_then HB.out (below_size HB.out) hb)
  clear BX
  clear HW
  clear HB
  have BX := n_BX
  clear n_BX
  have HW := n_HW
  clear n_HW
  have HB := n_HB
  clear n_HB
  clear hb
  go_wp2_with fail
  refine (impl_ArcsOf.calls k d1 Ax cx d2 gs gc _ (Kd.C_alloc (Kd.R_reads' HX.out).2.2 _) (Kd.R_reads' HX.out).2.1 (TabW.below HT.out (below_alloc HB.out _)) HA4.out).mono ?_
  rintro e w5 ⟨vg, rfl, hd, hb⟩
  obtain ⟨Ag, cg, rfl⟩ := Kd.S_slice hd
  have HG := Aside0.mk (show Kd.S (Kd.slice 2 (Kd.int .i64)) 22 w5 w.heap.size (fun k_ => w4.heap.size < k_ ∧ k_ < w5.heap.size) _ gs from Kd.S_lower (Kd.S_mono (Kd.S_bound hd) (fun k_ hk => ⟨by have := hk.2.1; simp at this; omega, hk.2.2.1⟩)) (by have := below_size HB.out; simp; omega))
  clear hd
  have BV := Aside0.mk (blk_below (blk_new w4 (.cells #[.int .i64 d1, .slice Ax d2.length cx] 29)) hb)
  have n_BX := Aside0.mk (blk_below (blk_alloc BX.out (.cells #[.int .i64 d1, .slice Ax d2.length cx] 29)) hb)
  have n_HW := Aside0.mk (Kd.S_below (Kd.S_alloc HW.out (.cells #[.int .i64 d1, .slice Ax d2.length cx] 29)) hb)
  have n_HX := Aside0.mk (Kd.R_below (Kd.R_alloc HX.out (.cells #[.int .i64 d1, .slice Ax d2.length cx] 29)) hb)
  have n_HB := Aside0.mk (below_then (below_alloc HB.out (.cells #[.int .i64 d1, .slice Ax d2.length cx] 29)) (below_size (below_alloc HB.out (.cells #[.int .i64 d1, .slice Ax d2.length cx] 29))) hb)
  clear BX
  clear HW
  clear HX
  clear HB
  have BX := n_BX
  clear n_BX
  have HW := n_HW
  clear n_HW
  have HX := n_HX
  clear n_HX
  have HB := n_HB
  clear n_HB
  clear hb
  go_wp2_with fail
  refine (laws_eqInt64SS.calls k Ag cg gs Aw cw ws true _ (Kd.S_reads' HG.out).2.2 (Kd.S_reads' HG.out).2.1 (Kd.S_reads' HW.out).2.2 (Kd.S_reads' HW.out).2.1 HA5.out).mono ?_
  rintro e w6 ⟨rfl, hd⟩
  have hb := hd.below
  clear hd
  have n_BX := Aside0.mk (blk_below BX.out hb)
  have n_BV := Aside0.mk (blk_below BV.out hb)
  have n_HW := Aside0.mk (Kd.S_below HW.out hb)
  have n_HG := Aside0.mk (Kd.S_below HG.out hb)
  have n_HX := Aside0.mk (Kd.R_below HX.out hb)
  have n_HB := Aside0.mk (below_then HB.out (below_size HB.out) hb)
  clear BX
  clear BV
  clear HW
  clear HG
  clear HX
  clear HB
  have BX := n_BX
  clear n_BX
  have BV := n_BV
  clear n_BV
  have HW := n_HW
  clear n_HW
  have HG := n_HG
  clear n_HG
  have HX := n_HX
  clear n_HX
  have HB := n_HB
  clear n_HB
  clear hb
  try go_wp2
  have n_BX := Aside0.mk (blk_drew BX.out)
  have n_BV := Aside0.mk (blk_drew BV.out)
  have n_HW := Aside0.mk (Kd.S_drew HW.out)
  have n_HG := Aside0.mk (Kd.S_drew HG.out)
  have n_HX := Aside0.mk (Kd.R_drew HX.out)
  have n_HB := Aside0.mk (below_drew1 HB.out)
  clear BX
  clear BV
  clear HW
  clear HG
  clear HX
  clear HB
  have BX := n_BX
  clear n_BX
  have BV := n_BV
  clear n_BV
  have HW := n_HW
  clear n_HW
  have HG := n_HG
  clear n_HG
  have HX := n_HX
  clear n_HX
  have HB := n_HB
  clear n_HB
  refine start_ (n := 5) (S := fun w' => w'.cell? ⟨w4.heap.size, 0, none⟩ = some (.int .i64 d1) ∧ w'.cell? ⟨w4.heap.size, 1, none⟩ = some (.slice Ax d2.length cx) ∧ w'.cell? ⟨w.heap.size, 0, none⟩ = some (.int .i64 a0_0) ∧ w'.cell? ⟨w.heap.size, 1, none⟩ = some (.slice A0_1 l0_1.length c0_1)) (ds := []) #[false, false, false, false, false] (by kernel_rfl) rfl rfl ⟨(blk_cell BV.out 0).trans rfl, (blk_cell BV.out 1).trans rfl, (blk_cell BX.out 0).trans rfl, (blk_cell BX.out 1).trans rfl⟩ (fun hHeld => ?_)
  generalize w6.drew = w7 at BX BV HW HG HX HB hHeld ⊢
  refine take_ (i := 0) (N := some 41) (v := ?_) (a' := ?_) #[true, false, false, false, false] rfl rfl (by kernel_rfl) (fun _ _ _ h => h) (Or.inl ⟨by rfl, ?_⟩) hHeld ?_ ?_
  rotate_left
  · rintro w' ⟨s0, s1, s2, s3⟩
    go_simp
    with_reducible rfl
  rotate_left
  · simp only [Act.put, List.setIfInBounds_toArray, List.set_cons_zero, List.set_cons_succ, i64_w, i32_w]
    rfl
  refine take_ (i := 1) (N := some 42) (v := ?_) (a' := ?_) #[true, true, false, false, false] rfl rfl (by kernel_rfl) (fun _ _ _ h => h) (Or.inl ⟨by rfl, ?_⟩) hHeld ?_ ?_
  rotate_left
  · rintro w' ⟨s0, s1, s2, s3⟩
    go_simp
    with_reducible rfl
  rotate_left
  · simp only [Act.put, List.setIfInBounds_toArray, List.set_cons_zero, List.set_cons_succ, i64_w, i32_w]
    rfl
  refine one_ (i := 2) (N := some 43) #[true, true, true, false, false] rfl rfl (by kernel_rfl) (by decide) (fun K hK => ?_)
  refine goes_ Tryd.func10 (by kernel_rfl) rfl #[.agg #[.int .i64 a0_0, .slice A0_1 l0_1.length c0_1]] (by rfl) rfl rfl (by (try simp only [List.map_toArray, List.map_cons, List.map_nil]); first | done | rfl | (simp only [List.length_drop, List.length_take]; rfl)) ?_
  with_reducible refine (laws_toDigraph.calls k a0_0 _ _ l0_1 d1 d2 _ ?side1 ?side2 HA2.out).mono ?_
  (case side1 => exact Kd.C_below HR.out HB.out)
  (case side2 => exact HC.out)
  rintro e w8 ⟨vy, rfl, hd, hb⟩
  refine ⟨_, rfl, ?_⟩
  obtain ⟨Ay, cy, rfl⟩ := Kd.R_slice hd
  have HY := Aside0.mk hd
  clear hd
  have n_BX := Aside0.mk (blk_below BX.out hb)
  have n_BV := Aside0.mk (blk_below BV.out hb)
  have n_HW := Aside0.mk (Kd.S_below HW.out hb)
  have n_HG := Aside0.mk (Kd.S_below HG.out hb)
  have n_HX := Aside0.mk (Kd.R_below HX.out hb)
  have n_HB := Aside0.mk (below_then HB.out (below_size HB.out) hb)
  clear BX
  clear BV
  clear HW
  clear HG
  clear HX
  clear HB
  have BX := n_BX
  clear n_BX
  have BV := n_BV
  clear n_BV
  have HW := n_HW
  clear n_HW
  have HG := n_HG
  clear n_HG
  have HX := n_HX
  clear n_HX
  have HB := n_HB
  clear n_HB
  clear hb
  refine hK.out _ _ ⟨(blk_cell BV.out 0).trans rfl, (blk_cell BV.out 1).trans rfl, (blk_cell BX.out 0).trans rfl, (blk_cell BX.out 1).trans rfl⟩ (fun hHeld => ?_)
  clear hK K
  refine norm_ (a' := ?_) ?_ ?_
  rotate_left
  · show Act.put _ (some 43) _ = _
    simp only [Act.put, List.setIfInBounds_toArray, List.set_cons_zero, List.set_cons_succ, i64_w, i32_w]
    rfl
  refine one_ (i := 3) (N := some 44) #[true, true, true, true, false] rfl rfl (by kernel_rfl) (by decide) (fun K hK => ?_)
  refine goes_ Tryd.func13 (by kernel_rfl) rfl #[.agg #[.int .i64 d1, .slice Ax d2.length cx], .agg #[.int .i64 d1, .slice Ay d2.length cy]] (by rfl) rfl rfl (by (try simp only [List.map_toArray, List.map_cons, List.map_nil]); first | done | rfl | (simp only [List.length_drop, List.length_take]; rfl)) ?_
  with_reducible refine (laws_eqDigraph.calls k d1 _ _ d2 d1 _ _ d2 true _ ?side1 ?side2 ?side3 ?side4 HA6.out).mono ?_
  (case side1 => exact (Kd.R_reads' HX.out).2.2)
  (case side2 => exact (Kd.R_reads' HX.out).2.1)
  (case side3 => exact (Kd.R_reads' HY.out).2.2)
  (case side4 => exact (Kd.R_reads' HY.out).2.1)
  rintro e w9 ⟨rfl, hb⟩
  refine ⟨_, rfl, ?_⟩
  clear HY
  have n_BX := Aside0.mk (blk_below BX.out hb)
  have n_BV := Aside0.mk (blk_below BV.out hb)
  have n_HW := Aside0.mk (Kd.S_below HW.out hb)
  have n_HG := Aside0.mk (Kd.S_below HG.out hb)
  have n_HX := Aside0.mk (Kd.R_below HX.out hb)
  have n_HB := Aside0.mk (below_then HB.out (below_size HB.out) hb)
  clear BX
  clear BV
  clear HW
  clear HG
  clear HX
  clear HB
  have BX := n_BX
  clear n_BX
  have BV := n_BV
  clear n_BV
  have HW := n_HW
  clear n_HW
  have HG := n_HG
  clear n_HG
  have HX := n_HX
  clear n_HX
  have HB := n_HB
  clear n_HB
  clear hb
  refine hK.out _ _ ⟨(blk_cell BV.out 0).trans rfl, (blk_cell BV.out 1).trans rfl, (blk_cell BX.out 0).trans rfl, (blk_cell BX.out 1).trans rfl⟩ (fun hHeld => ?_)
  clear hK K
  refine norm_ (a' := ?_) ?_ ?_
  rotate_left
  · show Act.put _ (some 44) _ = _
    simp only [Act.put, List.setIfInBounds_toArray, List.set_cons_zero, List.set_cons_succ, i64_w, i32_w]
    rfl
  refine pure_ (i := 4) (N := some 45) (v := ?_) (a' := ?_) #[true, true, true, true, true] rfl rfl (by kernel_rfl) (fun _ _ _ h => h) (Or.inl ⟨by rfl, ?_⟩) ?_ ?_
  rotate_left
  · intro w'
    go_simp
    with_reducible rfl
  rotate_left
  · simp only [Act.put, List.setIfInBounds_toArray, List.set_cons_zero, List.set_cons_succ, i64_w, i32_w]
    rfl
  refine done_ (by kernel_rfl) ?_
  have hcv0 : w9.cell? ⟨w4.heap.size, 0, none⟩ = some (.int .i64 d1) := (blk_cell BV.out 0).trans rfl
  have hcv1 : w9.cell? ⟨w4.heap.size, 1, none⟩ = some (.slice Ax d2.length cx) := (blk_cell BV.out 1).trans rfl
  go_wp2_with fail
  refine (laws_markDigraph.calls k d1 (fun k_ => some k_ = (Value.slice Ax d2.length cx).ownBlock) _ d2 1 k1 k2 w _ HB.out (Kd.R_tight rfl HX.out) HA7.out).mono ?_
  rintro e w10 ⟨rfl, hd, hB, hK⟩
  clear hd
  clear hcv0 hcv1
  have n_BX := Aside0.mk (blk_kept BX.out hK (fun e_ => by have := HXO.out _ e_.symm; omega))
  have n_HW := Aside0.mk (Kd.S_kept HW.out hK (fun k_ hk e_ => by have := HXO.out _ e_.symm; omega))
  have n_HG := Aside0.mk (Kd.S_kept HG.out hK (fun k_ hk e_ => by have := HXO.out _ e_.symm; omega))
  clear BX BV HX HW HG HB hK
  have BX := n_BX
  have HW := n_HW
  have HG := n_HG
  have HB := Aside0.mk hB
  clear n_BX n_HW n_HG hB
  go_wp2_with fail
  refine (laws_eqInt64SS.calls k Ag cg gs Aw cw ws true _ (Kd.S_reads' HG.out).2.2 (Kd.S_reads' HG.out).2.1 (Kd.S_reads' HW.out).2.2 (Kd.S_reads' HW.out).2.1 HA5.out).mono ?_
  rintro e w11 ⟨rfl, hd⟩
  have hb := hd.below
  clear hd
  have n_BX := Aside0.mk (blk_below BX.out hb)
  have n_HW := Aside0.mk (Kd.S_below HW.out hb)
  have n_HG := Aside0.mk (Kd.S_below HG.out hb)
  have n_HB := Aside0.mk (below_then HB.out (below_size HB.out) hb)
  clear BX
  clear HW
  clear HG
  clear HB
  have BX := n_BX
  clear n_BX
  have HW := n_HW
  clear n_HW
  have HG := n_HG
  clear n_HG
  have HB := n_HB
  clear n_HB
  clear hb
  go_wp2_with fail
  refine (laws_markInt64SS.calls k (fun k_ => w4.heap.size < k_ ∧ k_ < w5.heap.size) Ag cg gs 1 q m2 w _ HB.out HG.out HA8.out).mono ?_
  rintro e w12 ⟨rfl, hS, hl, hB, hK⟩
  have n_BX := Aside0.mk (blk_kept BX.out hK (fun e_ => by omega))
  have n_HW := Aside0.mk (Kd.S_kept HW.out hK (fun k_ hk e_ => by omega))
  rw [← hl] at hS
  rw [← hl]
  clear BX HW HG HB hK hl
  have BX := n_BX
  have HW := n_HW
  have HG := Aside0.mk (Kd.S_mono (ok' := fun _ => True) hS (fun _ _ => trivial))
  have HB := Aside0.mk hB
  clear n_BX n_HW hS hB
  go_wp2_with fail
  refine (laws_heldInt64SS.calls k Ag cg m2 1 q _ (Kd.S_reads' HG.out).2.2 (Kd.S_reads' HG.out).2.1 HA9.out).mono ?_
  rintro e w13 ⟨rfl, hd⟩
  have hb := hd.below
  clear hd
  have n_BX := Aside0.mk (blk_below BX.out hb)
  have n_HW := Aside0.mk (Kd.S_below HW.out hb)
  have n_HG := Aside0.mk (Kd.S_below HG.out hb)
  have n_HB := Aside0.mk (below_then HB.out (below_size HB.out) hb)
  clear BX
  clear HW
  clear HG
  clear HB
  have BX := n_BX
  clear n_BX
  have HW := n_HW
  clear n_HW
  have HG := n_HG
  clear n_HG
  have HB := n_HB
  clear n_HB
  clear hb
  have hcx0 : w13.cell? ⟨w.heap.size, 0, none⟩ = some (.int .i64 a0_0) := (blk_cell BX.out 0).trans rfl
  have hcx1 : w13.cell? ⟨w.heap.size, 1, none⟩ = some (.slice A0_1 l0_1.length c0_1) := (blk_cell BX.out 1).trans rfl
  go_wp2_with fail
  refine (laws_toDigraph.calls k a0_0 A0_1 c0_1 l0_1 d1 d2 _ (Kd.C_below HR.out HB.out) HC.out HA2.out).mono ?_
  rintro e w14 ⟨vz, rfl, hd, hb⟩
  obtain ⟨Az, cz, rfl⟩ := Kd.R_slice hd
  have HZ := Aside0.mk hd
  clear hd
  clear hcx0 hcx1
  have n_BX := Aside0.mk (blk_below BX.out hb)
  have n_HW := Aside0.mk (Kd.S_below HW.out hb)
  have n_HG := Aside0.mk (Kd.S_below HG.out hb)
  have n_HB := Aside0.mk (below_then HB.out (below_size HB.out) hb)
  clear BX
  clear HW
  clear HG
  clear HB
  have BX := n_BX
  clear n_BX
  have HW := n_HW
  clear n_HW
  have HG := n_HG
  clear n_HG
  have HB := n_HB
  clear n_HB
  clear hb
  go_wp2_with fail
  refine (impl_ArcsOf.calls k d1 Az cz d2 gs gc _ (Kd.R_reads' HZ.out).2.2 (Kd.R_reads' HZ.out).2.1 (TabW.below HT.out HB.out) HA4.out).mono ?_
  rintro e w15 ⟨vh, rfl, hd, hb⟩
  obtain ⟨Ah, ch, rfl⟩ := Kd.S_slice hd
  have HH := Aside0.mk hd
  clear hd HZ
  have n_BX := Aside0.mk (blk_below BX.out hb)
  have n_HW := Aside0.mk (Kd.S_below HW.out hb)
  have n_HG := Aside0.mk (Kd.S_below HG.out hb)
  have n_HB := Aside0.mk (below_then HB.out (below_size HB.out) hb)
  clear BX
  clear HW
  clear HG
  clear HB
  have BX := n_BX
  clear n_BX
  have HW := n_HW
  clear n_HW
  have HG := n_HG
  clear n_HG
  have HB := n_HB
  clear n_HB
  clear hb
  go_wp2_with fail
  refine (laws_eqInt64SS.calls k Ah ch gs Aw cw ws true _ (Kd.S_reads' HH.out).2.2 (Kd.S_reads' HH.out).2.1 (Kd.S_reads' HW.out).2.2 (Kd.S_reads' HW.out).2.1 HA5.out).mono ?_
  rintro e w16 ⟨rfl, hd⟩
  have hb := hd.below
  clear hd
  have n_BX := Aside0.mk (blk_below BX.out hb)
  have n_HW := Aside0.mk (Kd.S_below HW.out hb)
  have n_HG := Aside0.mk (Kd.S_below HG.out hb)
  have n_HB := Aside0.mk (below_then HB.out (below_size HB.out) hb)
  clear BX
  clear HW
  clear HG
  clear HB
  have BX := n_BX
  clear n_BX
  have HW := n_HW
  clear n_HW
  have HG := n_HG
  clear n_HG
  have HB := n_HB
  clear n_HB
  clear hb
  clear HH
  go_wp2_with fail
  refine (laws_heldInt64SS.calls k Ag cg m2 1 q _ (Kd.S_reads' HG.out).2.2 (Kd.S_reads' HG.out).2.1 HA9.out).mono ?_
  rintro e w17 ⟨rfl, hd⟩
  have hb := hd.below
  clear hd
  have n_BX := Aside0.mk (blk_below BX.out hb)
  have n_HW := Aside0.mk (Kd.S_below HW.out hb)
  have n_HG := Aside0.mk (Kd.S_below HG.out hb)
  have n_HB := Aside0.mk (below_then HB.out (below_size HB.out) hb)
  clear BX
  clear HW
  clear HG
  clear HB
  have BX := n_BX
  clear n_BX
  have HW := n_HW
  clear n_HW
  have HG := n_HG
  clear n_HG
  have HB := n_HB
  clear n_HB
  clear hb
  go_wp2
  go_ret
  exact ⟨by first | rfl | (simp; done) | (simp [*]; done), HB.out⟩

end Go.Proofs.YtcffgfomicpbfaaDoor.P
