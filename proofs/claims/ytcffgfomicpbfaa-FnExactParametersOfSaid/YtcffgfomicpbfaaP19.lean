-- Printed by a program of this workplace (wip/xp/xp.py) over the kit's print.
import Derived.Test.YtcffgfomicpbfaaP0
import Derived.Test.YtcffgfomicpbfaaP13
import Derived.Test.YtcffgfomicpbfaaP14
import Derived.Test.YtcffgfomicpbfaaP18
namespace Go.Proofs.Ytcffgfomicpbfaa.P
open Go.RowKit Go.Proofs.YtcffgfomicpbfaaW.PrintWords Go.Proofs.YtcffgfomicpbfaaW.PrintLast Go.Proofs.YtcffgfomicpbfaaW.PrintMore
attribute [local go_sem] max2_int min2_int max_two min_two max_three min_three max_four min_four   -- for this text's walks alone
set_option linter.unusedVariables false
set_option linter.unusedSimpArgs false

/-! ### impl_ParametersOf: function 39 -/
mutual
def impl_ParametersOf.j0 : Nat → Int → Bool → Int → List Int → Option (List Int × Int)
  | 0, _, _, _, _ => none
  | k + 1, x4, x23, x186000, x186001 => if x23 = true then (some (([] : List Int), 4)) else (impl_ParametersOf.l0 k x4 (([(-1), (-1)] : List Int)) x186000 0 x186000 x186001)
def impl_ParametersOf.l0 : Nat → Int → List Int → Int → Int → Int → List Int → Option (List Int × Int)
  | 0, _, _, _, _, _, _ => none
  | k + 1, x4, x5, x26, x27, x186000, x186001 => if x27 < x26 then (impl_ParametersOf.l1 k x4 x5 x27 x26 x27 x27 0 x186000 x186001) else (some ((([x186000, x4, rd x5 1, rd x5 0] : List Int)), 0))
def impl_ParametersOf.l1 : Nat → Int → List Int → Int → Int → Int → Int → Int → Int → List Int → Option (List Int × Int)
  | 0, _, _, _, _, _, _, _, _, _ => none
  | k + 1, x4, x5, x6, x26, x27, x30, x31, x186000, x186001 => if x31 < x30 then (if 0 ≤ x6 then (if x6 < (x186001.length : Int) then (if 0 ≤ x31 then (if x31 < (x186001.length : Int) then ((impl_size.f (Go.bits .and .i64 (rd x186001 x6) (rd x186001 x31))).bind fun t199 => (if 0 ≤ (Go.bits .and .i64 (shr .i64 (rd x186001 x6) x31) 1) then (if (Go.bits .and .i64 (shr .i64 (rd x186001 x6) x31) 1) < 2 then (if (rd x5 (Go.bits .and .i64 (shr .i64 (rd x186001 x6) x31) 1)) < 0 then ((some (x5.set ((Go.bits .and .i64 (shr .i64 (rd x186001 x6) x31) 1) : Int).toNat t199 : List Int)).bind fun y201 => (if (rd y201 (Go.bits .and .i64 (shr .i64 (rd x186001 x6) x31) 1)) = t199 then (impl_ParametersOf.l1 k x4 y201 x6 x26 x27 x30 (wrap64 (x31 + 1)) x186000 x186001) else (some (([] : List Int), 4)))) else (if (rd x5 (Go.bits .and .i64 (shr .i64 (rd x186001 x6) x31) 1)) = t199 then (impl_ParametersOf.l1 k x4 x5 x6 x26 x27 x30 (wrap64 (x31 + 1)) x186000 x186001) else (some (([] : List Int), 4)))) else (none)) else (none))) else (none)) else (none)) else (none)) else (none)) else (impl_ParametersOf.l0 k x4 x5 x26 (wrap64 (x27 + 1)) x186000 x186001)
end
def impl_ParametersOf.f (k : Nat) (a0_0 : Int) (l0_1 : List Int) : Option (List Int × Int) := (impl_IsGraph.f k a0_0 l0_1).bind fun t186 => (if t186 = true then ((impl_Graph_regular.f k a0_0 l0_1).bind fun t187 => (if t187 < 1 then (impl_ParametersOf.j0 k t187 true a0_0 l0_1) else (impl_ParametersOf.j0 k t187 (t187 == (wrap64 (a0_0 - 1))) a0_0 l0_1))) else (some (([] : List Int), 1)))
theorem impl_ParametersOf.made (W : World) : Kd.R (Kd.int .i64) 79 (W.alloc (.cells #[.int .i64 (-1), .int .i64 (-1)] 79)) W.heap.size (fun _ => True) (.slice (some ⟨W.heap.size, 0, none⟩) 2 2) [-1, -1] := by
  have hrep : Reps ((Kd.int .i64).M W W.heap.size (fun _ => True)) (Kd.int .i64).sz [(-1 : Int), -1] [.int .i64 (-1), .int .i64 (-1)] := Reps.one (show Kd.M (Kd.int .i64) _ _ _ (-1) [.int .i64 (-1)] from rfl) (Reps.one (show Kd.M (Kd.int .i64) _ _ _ (-1) [.int .i64 (-1)] from rfl) (Reps.none _ _))
  refine ⟨fun k hk => trivial, [.int .i64 (-1), .int .i64 (-1)], ?_, ?_⟩
  · have h2 := World.ownsRow_lit (base := W.heap.size) (e := 79) (size := (Kd.int .i64).sz) W #[.int .i64 (-1), .int .i64 (-1)] 2 (Nat.le_refl _) (by simp [maxLen]) (by simpa using hrep.1)
    simpa using h2
  · refine hrep.imp_ (fun p c hp => (Kd.int .i64).M_mono (fun k hk => ⟨trivial, fun he => ?_⟩) (Kd.M_below ((Kd.int .i64).M_bound hp) (below_alloc (Below.refl _ _) _)))
    have h3 : k = W.heap.size := by simpa [Value.ownBlock] using he
    have := hk.2.2.1
    omega
set_option maxHeartbeats 8000000 in
set_option maxRecDepth 100000 in
theorem impl_ParametersOf.calls (k : Nat) (a0_0 : Int) (A0_1 : Option Addr) (c0_1 : Nat) (l0_1 : List Int) (r1 : List Int) (r2 : Int) (w : World) (hr0_1 : Kd.C (Kd.int .i64) w A0_1 l0_1.length l0_1) (hc0_1 : l0_1.length ≤ c0_1) (h : impl_ParametersOf.f k a0_0 l0_1 = some (r1, r2)) :
    Calls Try.prog 39 #[.agg #[.int .i64 a0_0, .slice A0_1 l0_1.length c0_1]] w fun e w' => ∃ v0_ : Value, e = .returned (.tuple #[v0_, .int .i64 r2]) ∧ Kd.R (Kd.int .i64) 2 w' w.heap.size (fun _ => True) v0_ r1 ∧ Below w.heap.size w w' := by
  have hu := Try.underlying41
  have HR0_1 := Aside0.mk hr0_1
  have HC0_1 := Aside0.mk hc0_1
  clear hr0_1 hc0_1
  have HB := Aside0.mk (Below.refl w.heap.size w)
  have H : ((impl_IsGraph.f k a0_0 l0_1).bind fun t186 => (if t186 = true then ((impl_Graph_regular.f k a0_0 l0_1).bind fun t187 => (if t187 < 1 then (impl_ParametersOf.j0 k t187 true a0_0 l0_1) else (impl_ParametersOf.j0 k t187 (t187 == (wrap64 (a0_0 - 1))) a0_0 l0_1))) else (some (([] : List Int), 1)))) = some (r1, r2) := h
  clear h
  replace H := Option.bind_eq_some_iff.mp H
  obtain ⟨t186, A20, H⟩ := H
  replace H : (if t186 = true then ((impl_Graph_regular.f k a0_0 l0_1).bind fun t187 => (if t187 < 1 then (impl_ParametersOf.j0 k t187 true a0_0 l0_1) else (impl_ParametersOf.j0 k t187 (t187 == (wrap64 (a0_0 - 1))) a0_0 l0_1))) else (some (([] : List Int), 1))) = some (r1, r2) := H
  have A2 := Aside0.mk A20
  clear A20
  by_cases c3 : t186 = true
  · subst c3
    have H1 : ((impl_Graph_regular.f k a0_0 l0_1).bind fun t187 => (if t187 < 1 then (impl_ParametersOf.j0 k t187 true a0_0 l0_1) else (impl_ParametersOf.j0 k t187 (t187 == (wrap64 (a0_0 - 1))) a0_0 l0_1))) = some (r1, r2) := by rw [if_pos rfl] at H; exact H
    clear H
    have H := H1
    clear H1
    replace H := Option.bind_eq_some_iff.mp H
    obtain ⟨t187, A40, H⟩ := H
    replace H : (if t187 < 1 then (impl_ParametersOf.j0 k t187 true a0_0 l0_1) else (impl_ParametersOf.j0 k t187 (t187 == (wrap64 (a0_0 - 1))) a0_0 l0_1)) = some (r1, r2) := H
    have A4 := Aside0.mk A40
    clear A40
    have HC5 := Aside0.mk H
    clear H
    go_enter Try.func39, Try.ntmps39
    go_upto_region 4 with (first | ((with_reducible refine gate_dst (N := 1) rfl ?_); refine box_event ?hg (N := 1) ?hd (cs := #[.int .i64 a0_0, .slice A0_1 l0_1.length c0_1]) (t := 41) ?hr ?_; (case hd => rfl); (case hg => rfl); (case hr => first | (go_simp; done) | (go_simp; rfl)); intro gb185 hg w6 hbox hb; have n0_ := Aside0.mk (below_step (by repeat (first | (with_reducible first | exact HB.out | apply below_alloc | apply pw_below_drewN | apply below_drew1) | exact HB.out)) hb); have n1_ := Aside0.mk (hbox); have n2_ := Aside0.mk ((by rw [hg]; exact (below_size (by repeat (first | (with_reducible first | exact HB.out | apply below_alloc | apply pw_below_drewN | apply below_drew1) | exact HB.out))) : w.heap.size ≤ gb185)); have n3_ := Aside0.mk ((by rw [hg]; exact (below_size (by repeat (first | (with_reducible first | exact HB.out | apply below_alloc | apply pw_below_drewN | apply below_drew1) | exact HB.out))) : w.heap.size ≤ gb185)); clear HB; have HB := n0_; have BK185 := n1_; have GW185 := n2_; have GE185 := n3_; clear n0_ n1_ n2_ n3_; clear hb hbox hg; have hcz7_0 : w6.cell? ⟨gb185, 0, none⟩ = some (.int .i64 a0_0) := (blk_cell BK185.out 0).trans rfl; have hcz7_1 : w6.cell? ⟨gb185, 1, none⟩ = some (.slice A0_1 l0_1.length c0_1) := (blk_cell BK185.out 1).trans rfl; have hfz7_0 := blk_frozen BK185.out 0; have hfz7_1 := blk_frozen BK185.out 1) | (go_at_call 59; (with_reducible refine (impl_IsGraph.calls k a0_0 _ _ l0_1 true _ ?side1 ?side2 A2.out).mono ?_); (case side1 => repeat (first | exact (Kd.C_below HR0_1.out HB.out) | (with_reducible refine Kd.C_alloc ?_ _) | (with_reducible refine Kd.C_drewN ?_ _) | (with_reducible refine Kd.C_drew ?_))); (case side2 => exact HC0_1.out); rintro e w8 ⟨rfl, hb⟩; have n0_ := Aside0.mk (blk_below (g := gb185) (o := .cells #[.int .i64 a0_0, .slice A0_1 l0_1.length c0_1] 41 (0, 0)) (by (with_reducible repeat (first | refine blk_drewN ?_ _ | refine blk_drew ?_ | refine blk_alloc ?_ _)); exact BK185.out) hb); have n1_ := Aside0.mk (below_step (by repeat (first | (with_reducible first | exact HB.out | apply below_alloc | apply pw_below_drewN | apply below_drew1 | refine below_set ?_ GE185.out) | exact HB.out)) hb); clear BK185; clear HB; have BK185 := n0_; have HB := n1_; clear n0_ n1_; (try clear hb); (try clear hb2); (try clear hk); (try clear hi); have hcz9_0 : w8.cell? ⟨gb185, 0, none⟩ = some (.int .i64 a0_0) := (blk_cell BK185.out 0).trans rfl; have hcz9_1 : w8.cell? ⟨gb185, 1, none⟩ = some (.slice A0_1 l0_1.length c0_1) := (blk_cell BK185.out 1).trans rfl; have hfz9_0 := blk_frozen BK185.out 0; have hfz9_1 := blk_frozen BK185.out 1) | (go_at_call 71; (with_reducible refine (impl_Graph_regular.calls k a0_0 _ _ l0_1 t187 _ ?side1 ?side2 A4.out).mono ?_); (case side1 => repeat (first | exact (Kd.C_below HR0_1.out HB.out) | (with_reducible refine Kd.C_alloc ?_ _) | (with_reducible refine Kd.C_drewN ?_ _) | (with_reducible refine Kd.C_drew ?_))); (case side2 => exact HC0_1.out); rintro e w10 ⟨rfl, hb⟩; have n0_ := Aside0.mk (blk_below (g := gb185) (o := .cells #[.int .i64 a0_0, .slice A0_1 l0_1.length c0_1] 41 (0, 0)) (by (with_reducible repeat (first | refine blk_drewN ?_ _ | refine blk_drew ?_ | refine blk_alloc ?_ _)); exact BK185.out) hb); have n1_ := Aside0.mk (below_step (by repeat (first | (with_reducible first | exact HB.out | apply below_alloc | apply pw_below_drewN | apply below_drew1 | refine below_set ?_ GE185.out) | exact HB.out)) hb); clear BK185; clear HB; have BK185 := n0_; have HB := n1_; clear n0_ n1_; (try clear hb); (try clear hb2); (try clear hk); (try clear hi)))
    (try simp only [Act.put, List.setIfInBounds_toArray, List.set_cons_zero, List.set_cons_succ])
    go_cut [23] (fun v23 wc => ∃ (kq : Nat) (x23_4 : Bool), v23 = .bool x23_4 ∧ Aside0 (impl_ParametersOf.j0 kq t187 x23_4 a0_0 l0_1 = some (r1, r2)) ∧ Aside0 (kq ≤ k) ∧ Aside0 (wc.heap[gb185]? = some (.cells #[.int .i64 a0_0, (.slice A0_1 l0_1.length c0_1)] 41 (0, 0))) ∧ Aside0 (Below w.heap.size w wc))
    case first =>
      have H := HC5.out
      clear HC5
      by_cases c11 : t187 < 1
      · rw [if_pos c11] at H
        have c11b0 : decide (t187 < 1) = true := decide_eq_true c11
        clear c11
        (first | rw [c11b0] | (simp only [i64_w, i32_w]; rw [c11b0]) | skip)
        have H' := Aside0.mk H
        clear H
        go_wp2
        go_meet
        case rel => exact ⟨_, (true), (by first | rfl | (simp; done) | (simp [*]; done)), H', ⟨by first | omega | exact Nat.le_refl _⟩, ⟨by (with_reducible repeat (first | refine blk_drewN ?_ _ | refine blk_drew ?_ | refine blk_alloc ?_ _)); exact BK185.out⟩, ⟨by repeat (first | (with_reducible first | exact HB.out | apply below_alloc | apply pw_below_drewN | apply below_drew1 | refine below_set ?_ GE185.out) | exact HB.out)⟩⟩
      · rw [if_neg c11] at H
        have c11b0 : decide (t187 < 1) = false := decide_eq_false c11
        clear c11
        (first | rw [c11b0] | (simp only [i64_w, i32_w]; rw [c11b0]) | skip)
        have H' := Aside0.mk H
        clear H
        have hcz12_0 : w10.cell? ⟨gb185, 0, none⟩ = some (.int .i64 a0_0) := (blk_cell BK185.out 0).trans rfl
        have hcz12_1 : w10.cell? ⟨gb185, 1, none⟩ = some (.slice A0_1 l0_1.length c0_1) := (blk_cell BK185.out 1).trans rfl
        have hfz12_0 := blk_frozen BK185.out 0
        have hfz12_1 := blk_frozen BK185.out 1
        go_wp2
        go_meet
        case rel => exact ⟨_, ((t187 == (wrap64 (a0_0 - 1)))), (by first | rfl | (simp; done) | (simp [*]; done)), H', ⟨by first | omega | exact Nat.le_refl _⟩, ⟨by (with_reducible repeat (first | refine blk_drewN ?_ _ | refine blk_drew ?_ | refine blk_alloc ?_ _)); exact BK185.out⟩, ⟨by repeat (first | (with_reducible first | exact HB.out | apply below_alloc | apply pw_below_drewN | apply below_drew1 | refine below_set ?_ GE185.out) | exact HB.out)⟩⟩
    case rest =>
      clear HC5
      try clear c1
      try clear p2
      try clear c3
      try clear p6
      try clear c11
      try clear c11b0
      try clear hcz12_0
      try clear hcz12_1
      try clear hcz7_0
      try clear hcz7_1
      try clear hcz9_0
      try clear hcz9_1
      try clear hfz12_0
      try clear hfz12_1
      try clear hfz7_0
      try clear hfz7_1
      try clear hfz9_0
      try clear hfz9_1
      obtain ⟨kq, x23_4, rfl, HA, HJ4, BK185, HB⟩ := hcut
      cases kq with
      | zero => exact absurd HA.out (by simp [impl_ParametersOf.j0])
      | succ kj4 =>
        have H := HA.out
        clear HA
        simp only [impl_ParametersOf.j0] at H
        by_cases c13 : x23_4 = true
        · subst c13
          have H1 : (some (([] : List Int), 4)) = some (r1, r2) := by rw [if_pos rfl] at H; exact H
          clear H
          have H := H1
          clear H1
          simp only [Option.some.injEq, Prod.mk.injEq] at H
          obtain ⟨rfl, rfl⟩ := H
          go_wp2
          go_ret2
          exact ⟨_, by first | rfl | (simp [errW_none, errW_some] <;> rfl) | (simp [*, errW_none, errW_some] <;> rfl), by first | exact Kd.R_nil _ _ _ _ _ | exact Kd.N_nil _ _ _ _ _ | exact Kd.V_nil _ _ _ _ _ | exact Kd.Q_nil _ _ _ _ _ | exact Kd.S_nil _ _ _ _ _, by repeat (first | (with_reducible first | exact HB.out | apply below_alloc | apply pw_below_drewN | apply below_drew1 | refine below_set ?_ GE185.out) | exact HB.out)⟩
        · replace c13 := Bool.eq_false_iff.mpr c13
          subst c13
          have H1 : (impl_ParametersOf.l0 kj4 t187 (([(-1), (-1)] : List Int)) a0_0 0 a0_0 l0_1) = some (r1, r2) := by rw [if_neg (show ¬ (false = true) by decide)] at H; exact H
          clear H
          have H := H1
          clear H1
          obtain ⟨y188, hy188⟩ : ∃ y_ : List Int, y_ = (([(-1), (-1)] : List Int)) := ⟨_, rfl⟩
          replace H : (impl_ParametersOf.l0 kj4 t187 y188 a0_0 0 a0_0 l0_1) = some (r1, r2) := by first | (rw [hy188]; with_reducible exact H) | (have H2_ := (Option.bind_some _ _).symm.trans H; rw [hy188]; with_reducible exact H2_) | (have H2_ := (Option.bind_some _ _).symm.trans H; with_reducible exact H2_) | with_reducible exact H | (rw [hy188]; exact H) | exact H
          have Ny188 := Aside0.mk hy188
          clear hy188
          have H' := Aside0.mk H
          clear H
          go_upto_region 7 with fail
          have HO190 := Aside0.mk (Kd.R_lower (impl_ParametersOf.made wc) (below_size HB.out))
          rw [← Ny188.out] at HO190
          have n1_ := Aside0.mk (blk_alloc BK185.out (.cells #[Value.int IntKind.i64 (-1), Value.int IntKind.i64 (-1)] 79))
          have n2_ := Aside0.mk (below_alloc HB.out (.cells #[Value.int IntKind.i64 (-1), Value.int IntKind.i64 (-1)] 79))
          have GC := Aside0.mk (below_size HB.out)
          clear BK185 HB
          have BK185 := n1_
          have HB := n2_
          clear n1_ n2_
          generalize (wc.alloc (.cells #[Value.int IntKind.i64 (-1), Value.int IntKind.i64 (-1)] 79)) = w14 at HO190 BK185 HB ⊢
          generalize wc.heap.size = gc at HO190 GC ⊢
          have hcz16_0 : w14.cell? ⟨gb185, 0, none⟩ = some (.int .i64 a0_0) := (blk_cell BK185.out 0).trans rfl
          have hcz16_1 : w14.cell? ⟨gb185, 1, none⟩ = some (.slice A0_1 l0_1.length c0_1) := (blk_cell BK185.out 1).trans rfl
          have hfz16_0 := blk_frozen BK185.out 0
          have hfz16_1 := blk_frozen BK185.out 1
          go_wp2
          go_loopg [27] kj4 (fun kq v27 w' => ∃ (x5_2 : List Int) (x27_2 : Int), v27 = .int .i64 x27_2 ∧ Aside0 (impl_ParametersOf.l0 kq t187 x5_2 a0_0 x27_2 a0_0 l0_1 = some (r1, r2)) ∧ Aside0 (kq ≤ kj4) ∧ Aside0 (Kd.R (Kd.int .i64) 79 w' w.heap.size (fun _ => True) (.slice (some ⟨gc, 0, none⟩) 2 2) x5_2) ∧ Aside0 (w'.heap[gb185]? = some (.cells #[.int .i64 a0_0, (.slice A0_1 l0_1.length c0_1)] 41 (0, 0))) ∧ Aside0 (Below w.heap.size w w'))
          case atStart => exact ⟨(y188), (0), (by first | rfl | (simp; done) | (simp [*]; done)), H', ⟨Nat.le_refl _⟩, ⟨by (with_reducible repeat (first | apply Kd.R_alloc | apply Kd.R_drewN | apply Kd.R_drew)); exact HO190.out⟩, ⟨by (with_reducible repeat (first | refine blk_drewN ?_ _ | refine blk_drew ?_ | refine blk_alloc ?_ _)); exact BK185.out⟩, ⟨by repeat (first | (with_reducible first | exact HB.out | apply below_alloc | apply pw_below_drewN | apply below_drew1 | refine below_set ?_ GE185.out) | exact HB.out)⟩⟩
          case round =>
            clear H'
            try clear c1
            try clear p2
            try clear c3
            try clear p6
            try clear c11
            try clear c11b0
            try clear c13
            try clear hcz12_0
            try clear hcz12_1
            try clear hcz16_0
            try clear hcz16_1
            try clear hcz7_0
            try clear hcz7_1
            try clear hcz9_0
            try clear hcz9_1
            try clear hfz12_0
            try clear hfz12_1
            try clear hfz16_0
            try clear hfz16_1
            try clear hfz7_0
            try clear hfz7_1
            try clear hfz9_0
            try clear hfz9_1
            try clear p2
            try clear p6
            obtain ⟨x5_2, x27_2, rfl, HA, HK2, HO_5, BK185, HB⟩ := hrel
            cases gk with
            | zero => exact absurd HA.out (by simp [impl_ParametersOf.l0])
            | succ k2 =>
              have H := HA.out
              clear HA
              simp only [impl_ParametersOf.l0] at H
              by_cases c17 : x27_2 < a0_0
              · rw [if_pos c17] at H
                have c17b0 : decide (x27_2 < a0_0) = true := decide_eq_true c17
                clear c17
                have H' := Aside0.mk H
                clear H
                go_wp2
                go_loopg [31] k2 (fun kq v31 w' => ∃ (x5_3 : List Int) (x31_3 : Int), v31 = .int .i64 x31_3 ∧ Aside0 (impl_ParametersOf.l1 kq t187 x5_3 x27_2 a0_0 x27_2 x27_2 x31_3 a0_0 l0_1 = some (r1, r2)) ∧ Aside0 (kq ≤ k2) ∧ Aside0 (Kd.R (Kd.int .i64) 79 w' w.heap.size (fun _ => True) (.slice (some ⟨gc, 0, none⟩) 2 2) x5_3) ∧ Aside0 (w'.heap[gb185]? = some (.cells #[.int .i64 a0_0, (.slice A0_1 l0_1.length c0_1)] 41 (0, 0))) ∧ Aside0 (Below w.heap.size w w'))
                case atStart => exact ⟨(x5_2), (0), (by first | rfl | (simp; done) | (simp [*]; done)), H', ⟨Nat.le_refl _⟩, ⟨by (with_reducible repeat (first | apply Kd.R_alloc | apply Kd.R_drewN | apply Kd.R_drew)); exact HO_5.out⟩, ⟨by (with_reducible repeat (first | refine blk_drewN ?_ _ | refine blk_drew ?_ | refine blk_alloc ?_ _)); exact BK185.out⟩, ⟨by repeat (first | (with_reducible first | exact HB.out | apply below_alloc | apply pw_below_drewN | apply below_drew1 | refine below_set ?_ GE185.out) | exact HB.out)⟩⟩
                case round =>
                  clear H'
                  try clear c1
                  try clear p2
                  try clear c3
                  try clear p6
                  try clear c11
                  try clear c11b0
                  try clear c13
                  try clear c17
                  try clear c17b0
                  try clear hcz12_0
                  try clear hcz12_1
                  try clear hcz16_0
                  try clear hcz16_1
                  try clear hcz7_0
                  try clear hcz7_1
                  try clear hcz9_0
                  try clear hcz9_1
                  try clear hfz12_0
                  try clear hfz12_1
                  try clear hfz16_0
                  try clear hfz16_1
                  try clear hfz7_0
                  try clear hfz7_1
                  try clear hfz9_0
                  try clear hfz9_1
                  try clear p2
                  try clear p6
                  obtain ⟨x5_3, x31_3, rfl, HA, HK3, HO_5, BK185, HB⟩ := hrel
                  cases gk with
                  | zero => exact absurd HA.out (by simp [impl_ParametersOf.l1])
                  | succ k3 =>
                    have H := HA.out
                    clear HA
                    simp only [impl_ParametersOf.l1] at H
                    by_cases c18 : x31_3 < x27_2
                    · rw [if_pos c18] at H
                      have c18b0 : decide (x31_3 < x27_2) = true := decide_eq_true c18
                      clear c18
                      by_cases c19 : 0 ≤ x27_2
                      · rw [if_pos c19] at H
                        have c19b0 : decide (0 ≤ x27_2) = true := decide_eq_true c19
                        clear c19
                        by_cases c20 : x27_2 < (l0_1.length : Int)
                        · rw [if_pos c20] at H
                          have c20b0 : decide (x27_2 < (l0_1.length : Int)) = true := decide_eq_true c20
                          clear c20
                          by_cases c21 : 0 ≤ x31_3
                          · rw [if_pos c21] at H
                            have c21b0 := eq_true c21
                            have c21b1 : decide (0 ≤ x31_3) = true := decide_eq_true c21
                            clear c21
                            obtain ⟨ji22, hji22⟩ : ∃ j_ : Int, (shr .i64 (rd l0_1 x27_2) x31_3) = j_ := ⟨_, rfl⟩
                            replace H : (if x31_3 < (l0_1.length : Int) then ((impl_size.f (Go.bits .and .i64 (rd l0_1 x27_2) (rd l0_1 x31_3))).bind fun t199 => (if 0 ≤ (Go.bits .and .i64 (ji22) 1) then (if (Go.bits .and .i64 (ji22) 1) < 2 then (if (rd x5_3 (Go.bits .and .i64 (ji22) 1)) < 0 then ((some (x5_3.set ((Go.bits .and .i64 (ji22) 1) : Int).toNat t199 : List Int)).bind fun y201 => (if (rd y201 (Go.bits .and .i64 (ji22) 1)) = t199 then (impl_ParametersOf.l1 k3 t187 y201 x27_2 a0_0 x27_2 x27_2 (wrap64 (x31_3 + 1)) a0_0 l0_1) else (some (([] : List Int), 4)))) else (if (rd x5_3 (Go.bits .and .i64 (ji22) 1)) = t199 then (impl_ParametersOf.l1 k3 t187 x5_3 x27_2 a0_0 x27_2 x27_2 (wrap64 (x31_3 + 1)) a0_0 l0_1) else (some (([] : List Int), 4)))) else (none)) else (none))) else (none)) = some (r1, r2) := by first | (rw [hji22] at H; exact H) | (simp only [hji22] at H ⊢; exact H)
                            have hji22_ : ((rd l0_1 x27_2) / 2 ^ min x31_3.toNat 64) = ji22 := hji22
                            have hji22z : x31_3 ≤ 64 → ((rd l0_1 x27_2) / 2 ^ x31_3.toNat) = ji22 := shr_small hji22
                            by_cases c23 : x31_3 < (l0_1.length : Int)
                            · rw [if_pos c23] at H
                              have c23b0 : decide (x31_3 < (l0_1.length : Int)) = true := decide_eq_true c23
                              clear c23
                              replace H := Option.bind_eq_some_iff.mp H
                              obtain ⟨t199, A240, H⟩ := H
                              replace H : (if 0 ≤ (Go.bits .and .i64 (ji22) 1) then (if (Go.bits .and .i64 (ji22) 1) < 2 then (if (rd x5_3 (Go.bits .and .i64 (ji22) 1)) < 0 then ((some (x5_3.set ((Go.bits .and .i64 (ji22) 1) : Int).toNat t199 : List Int)).bind fun y201 => (if (rd y201 (Go.bits .and .i64 (ji22) 1)) = t199 then (impl_ParametersOf.l1 k3 t187 y201 x27_2 a0_0 x27_2 x27_2 (wrap64 (x31_3 + 1)) a0_0 l0_1) else (some (([] : List Int), 4)))) else (if (rd x5_3 (Go.bits .and .i64 (ji22) 1)) = t199 then (impl_ParametersOf.l1 k3 t187 x5_3 x27_2 a0_0 x27_2 x27_2 (wrap64 (x31_3 + 1)) a0_0 l0_1) else (some (([] : List Int), 4)))) else (none)) else (none)) = some (r1, r2) := H
                              have A24 := Aside0.mk A240
                              clear A240
                              by_cases c25 : 0 ≤ (Go.bits .and .i64 (ji22) 1)
                              · rw [if_pos c25] at H
                                have c25b0 : decide (0 ≤ (Go.bits .and .i64 (ji22) 1)) = true := decide_eq_true c25
                                clear c25
                                by_cases c26 : (Go.bits .and .i64 (ji22) 1) < 2
                                · rw [if_pos c26] at H
                                  have c26b0 : decide ((Go.bits .and .i64 (ji22) 1) < 2) = true := decide_eq_true c26
                                  clear c26
                                  have i0 : 0 ≤ (Go.bits .and .i64 (ji22) 1) := of_decide_eq_true c25b0
                                  have i1 : (Go.bits .and .i64 (ji22) 1) < 2 := of_decide_eq_true c26b0
                                  have hcx : wr.cell? ⟨gc, ((Go.bits .and .i64 (ji22) 1) : Int).toNat, none⟩ = some (.int .i64 (rd x5_3 (Go.bits .and .i64 (ji22) 1))) := (Kd.R_celln 0 HO_5.out (Go.bits .and .i64 (ji22) 1) i0 i1).1
                                  have p200 := eq_true i0
                                  have q200 := eq_true i1
                                  clear i0 i1
                                  by_cases c27 : (rd x5_3 (Go.bits .and .i64 (ji22) 1)) < 0
                                  · rw [if_pos c27] at H
                                    have c27b0 : decide ((rd x5_3 (Go.bits .and .i64 (ji22) 1)) < 0) = true := decide_eq_true c27
                                    clear c27
                                    obtain ⟨y201, hy201⟩ : ∃ y_ : List Int, y_ = (x5_3.set ((Go.bits .and .i64 (ji22) 1) : Int).toNat t199) := ⟨_, rfl⟩
                                    replace H : (if (rd y201 (Go.bits .and .i64 (ji22) 1)) = t199 then (impl_ParametersOf.l1 k3 t187 y201 x27_2 a0_0 x27_2 x27_2 (wrap64 (x31_3 + 1)) a0_0 l0_1) else (some (([] : List Int), 4))) = some (r1, r2) := by first | (rw [hy201]; with_reducible exact H) | (have H2_ := (Option.bind_some _ _).symm.trans H; rw [hy201]; with_reducible exact H2_) | (have H2_ := (Option.bind_some _ _).symm.trans H; with_reducible exact H2_) | with_reducible exact H | (rw [hy201]; exact H) | exact H
                                    have Ny201 := Aside0.mk hy201
                                    clear hy201
                                    by_cases c29 : (rd y201 (Go.bits .and .i64 (ji22) 1)) = t199
                                    · rw [if_pos c29] at H
                                      have c29b0 : ((rd y201 (Go.bits .and .i64 (ji22) 1)) == t199) = true := beq_iff_eq.mpr c29
                                      have c29b1 : ((rd y201 (Go.bits .and .i64 (ji22) 1)) != t199) = false := bne_eq_false_iff_eq.mpr c29
                                      clear c29
                                      have H' := Aside0.mk H
                                      clear H
                                      have hcz30_0 : wr.cell? ⟨gb185, 0, none⟩ = some (.int .i64 a0_0) := (blk_cell BK185.out 0).trans rfl
                                      have hcz30_1 : wr.cell? ⟨gb185, 1, none⟩ = some (.slice A0_1 l0_1.length c0_1) := (blk_cell BK185.out 1).trans rfl
                                      have hfz30_0 := blk_frozen BK185.out 0
                                      have hfz30_1 := blk_frozen BK185.out 1
                                      have p196 : 0 ≤ (x27_2 : Int) := of_decide_eq_true (by first | (with_reducible assumption) | assumption)
                                      have q196 : x27_2 < (l0_1.length : Int) := of_decide_eq_true (by first | (with_reducible assumption) | assumption)
                                      obtain ⟨ad196, e196, hx196_0⟩ := Kd.at_int HR0_1.out x27_2 p196 q196
                                      cases e196
                                      (try replace hx196_0 := (HB.out.cell (World.block_lt_of_cell? w _ hx196_0)).trans hx196_0)
                                      replace p196 := eq_true p196
                                      replace q196 := eq_true q196
                                      have p197 : 0 ≤ (x27_2 : Int) := of_decide_eq_true (by first | (with_reducible assumption) | assumption)
                                      have q197 : x27_2 < (l0_1.length : Int) := of_decide_eq_true (by first | (with_reducible assumption) | assumption)
                                      obtain ⟨ad197, e197, hx197_0⟩ := Kd.at_int HR0_1.out x27_2 p197 q197
                                      obtain rfl : ad196 = ad197 := (by injection e197)
                                      (try replace hx197_0 := (HB.out.cell (World.block_lt_of_cell? w _ hx197_0)).trans hx197_0)
                                      replace p197 := eq_true p197
                                      replace q197 := eq_true q197
                                      have p198 : 0 ≤ (x31_3 : Int) := of_decide_eq_true (by first | (with_reducible assumption) | assumption)
                                      have q198 : x31_3 < (l0_1.length : Int) := of_decide_eq_true (by first | (with_reducible assumption) | assumption)
                                      obtain ⟨ad198, e198, hx198_0⟩ := Kd.at_int HR0_1.out x31_3 p198 q198
                                      obtain rfl : ad196 = ad198 := (by injection e198)
                                      (try replace hx198_0 := (HB.out.cell (World.block_lt_of_cell? w _ hx198_0)).trans hx198_0)
                                      replace p198 := eq_true p198
                                      replace q198 := eq_true q198
                                      go_wp2_with (first | (go_at_call 72; (with_reducible refine (impl_size.calls (Go.bits .and .i64 (rd l0_1 x27_2) (rd l0_1 x31_3)) t199 _ A24.out).mono ?_); rintro e w' ⟨rfl, ⟨nd, rfl⟩⟩; (try first | exact ⟨rfl, _, World.drewN_drewN _ _ _⟩ | exact ⟨rfl, _, Eq.trans (World.drewN_drewN _ _ _) (congrArg (World.drewN _) (Nat.add_assoc _ _ _))⟩)) | ((with_reducible refine gate_store (t := 2) (p := 60) rfl ?_); generalize hq_ : World.drewN wr _ = wr1; have n0_ := Aside0.mk (show Kd.R (Kd.int .i64) 79 wr1 w.heap.size (fun _ => True) (.slice (some ⟨gc, 0, none⟩) 2 2) x5_3 from by rw [← hq_]; exact Kd.R_drewN HO_5.out _); have n1_ := Aside0.mk (show wr1.heap[gb185]? = some (.cells #[.int .i64 a0_0, .slice (some ad196) l0_1.length c0_1] 41 (0, 0)) from by rw [← hq_]; exact blk_drewN BK185.out _); have n2_ := Aside0.mk (show Below w.heap.size w wr1 from by rw [← hq_]; exact pw_below_drewN HB.out _); clear hcx hq_ HO_5 BK185 HB; have HO_5 := n0_; have BK185 := n1_; have HB := n2_; clear n0_ n1_ n2_; obtain ⟨hy32_, hz32_⟩ := Kd.R_celln 0 HO_5.out ((Go.bits .and .i64 (ji22) 1) : Int) (of_eq_true p200) (of_eq_true q200); have HP32 := Kd.R_putg HO_5.out ((Go.bits .and .i64 (ji22) 1) : Int) t199; refine store_event (t := 2) (p := 60) (v := ?vo_w33) (w1 := (wr1.setCell ⟨gc, ((Go.bits .and .i64 (ji22) 1) : Int).toNat, none⟩ (.int .i64 t199))) ?hg ?ho ?hn ?hr ?_; (case ho => rfl); (case hg => rfl); (case hn => rfl); (case hr => first | (go_simp; done) | (go_simp; rfl)); intro w33 hw; have hg : wr1.grownBy w33 (some gc) := (by rw [hw]; exact HP32.2); have hp_ : Kd.R (Kd.int .i64) 79 w33 w.heap.size (fun _ => True) (.slice (some ⟨gc, 0, none⟩) 2 2) y201 := (by rw [hw, Ny201.out]; exact HP32.1); clear HP32 hy32_ hz32_; have n0_ := Aside0.mk hp_; have n1_ := Aside0.mk (blk_grown (g := gb185) (o := .cells #[.int .i64 a0_0, .slice (some ad196) l0_1.length c0_1] 41 (0, 0)) BK185.out hg (Kd.R_ne HO_5.out BK185.out (by decide))); have n2_ := Aside0.mk ((by rw [hw]; exact below_set (HB.out) GC.out : Below w.heap.size w w33)); clear HO_5 BK185 HB; have HO_5 := n0_; have BK185 := n1_; have HB := n2_; clear n0_ n1_ n2_ hg hw hp_; have hcy : w33.cell? ⟨gc, ((Go.bits .and .i64 (ji22) 1) : Int).toNat, none⟩ = some (.int .i64 (rd y201 (Go.bits .and .i64 (ji22) 1))) := (Kd.R_celln 0 HO_5.out (Go.bits .and .i64 (ji22) 1) (of_eq_true p200) (of_eq_true q200)).1))
                                      repeat (go_quiet (first | (go_at_call 72; (with_reducible refine (impl_size.calls (Go.bits .and .i64 (rd l0_1 x27_2) (rd l0_1 x31_3)) t199 _ A24.out).mono ?_); rintro e w' ⟨rfl, ⟨nd, rfl⟩⟩; (try first | exact ⟨rfl, _, World.drewN_drewN _ _ _⟩ | exact ⟨rfl, _, Eq.trans (World.drewN_drewN _ _ _) (congrArg (World.drewN _) (Nat.add_assoc _ _ _))⟩)) | ((with_reducible refine gate_store (t := 2) (p := 60) rfl ?_); generalize hq_ : World.drewN wr _ = wr1; have n0_ := Aside0.mk (show Kd.R (Kd.int .i64) 79 wr1 w.heap.size (fun _ => True) (.slice (some ⟨gc, 0, none⟩) 2 2) x5_3 from by rw [← hq_]; exact Kd.R_drewN HO_5.out _); have n1_ := Aside0.mk (show wr1.heap[gb185]? = some (.cells #[.int .i64 a0_0, .slice (some ad196) l0_1.length c0_1] 41 (0, 0)) from by rw [← hq_]; exact blk_drewN BK185.out _); have n2_ := Aside0.mk (show Below w.heap.size w wr1 from by rw [← hq_]; exact pw_below_drewN HB.out _); clear hcx hq_ HO_5 BK185 HB; have HO_5 := n0_; have BK185 := n1_; have HB := n2_; clear n0_ n1_ n2_; obtain ⟨hy32_, hz32_⟩ := Kd.R_celln 0 HO_5.out ((Go.bits .and .i64 (ji22) 1) : Int) (of_eq_true p200) (of_eq_true q200); have HP32 := Kd.R_putg HO_5.out ((Go.bits .and .i64 (ji22) 1) : Int) t199; refine store_event (t := 2) (p := 60) (v := ?vo_w33) (w1 := (wr1.setCell ⟨gc, ((Go.bits .and .i64 (ji22) 1) : Int).toNat, none⟩ (.int .i64 t199))) ?hg ?ho ?hn ?hr ?_; (case ho => rfl); (case hg => rfl); (case hn => rfl); (case hr => first | (go_simp; done) | (go_simp; rfl)); intro w33 hw; have hg : wr1.grownBy w33 (some gc) := (by rw [hw]; exact HP32.2); have hp_ : Kd.R (Kd.int .i64) 79 w33 w.heap.size (fun _ => True) (.slice (some ⟨gc, 0, none⟩) 2 2) y201 := (by rw [hw, Ny201.out]; exact HP32.1); clear HP32 hy32_ hz32_; have n0_ := Aside0.mk hp_; have n1_ := Aside0.mk (blk_grown (g := gb185) (o := .cells #[.int .i64 a0_0, .slice (some ad196) l0_1.length c0_1] 41 (0, 0)) BK185.out hg (Kd.R_ne HO_5.out BK185.out (by decide))); have n2_ := Aside0.mk ((by rw [hw]; exact below_set (HB.out) GC.out : Below w.heap.size w w33)); clear HO_5 BK185 HB; have HO_5 := n0_; have BK185 := n1_; have HB := n2_; clear n0_ n1_ n2_ hg hw hp_; have hcy : w33.cell? ⟨gc, ((Go.bits .and .i64 (ji22) 1) : Int).toNat, none⟩ = some (.int .i64 (rd y201 (Go.bits .and .i64 (ji22) 1))) := (Kd.R_celln 0 HO_5.out (Go.bits .and .i64 (ji22) 1) (of_eq_true p200) (of_eq_true q200)).1)); try go_wp2_with (first | (go_at_call 72; (with_reducible refine (impl_size.calls (Go.bits .and .i64 (rd l0_1 x27_2) (rd l0_1 x31_3)) t199 _ A24.out).mono ?_); rintro e w' ⟨rfl, ⟨nd, rfl⟩⟩; (try first | exact ⟨rfl, _, World.drewN_drewN _ _ _⟩ | exact ⟨rfl, _, Eq.trans (World.drewN_drewN _ _ _) (congrArg (World.drewN _) (Nat.add_assoc _ _ _))⟩)) | ((with_reducible refine gate_store (t := 2) (p := 60) rfl ?_); generalize hq_ : World.drewN wr _ = wr1; have n0_ := Aside0.mk (show Kd.R (Kd.int .i64) 79 wr1 w.heap.size (fun _ => True) (.slice (some ⟨gc, 0, none⟩) 2 2) x5_3 from by rw [← hq_]; exact Kd.R_drewN HO_5.out _); have n1_ := Aside0.mk (show wr1.heap[gb185]? = some (.cells #[.int .i64 a0_0, .slice (some ad196) l0_1.length c0_1] 41 (0, 0)) from by rw [← hq_]; exact blk_drewN BK185.out _); have n2_ := Aside0.mk (show Below w.heap.size w wr1 from by rw [← hq_]; exact pw_below_drewN HB.out _); clear hcx hq_ HO_5 BK185 HB; have HO_5 := n0_; have BK185 := n1_; have HB := n2_; clear n0_ n1_ n2_; obtain ⟨hy32_, hz32_⟩ := Kd.R_celln 0 HO_5.out ((Go.bits .and .i64 (ji22) 1) : Int) (of_eq_true p200) (of_eq_true q200); have HP32 := Kd.R_putg HO_5.out ((Go.bits .and .i64 (ji22) 1) : Int) t199; refine store_event (t := 2) (p := 60) (v := ?vo_w33) (w1 := (wr1.setCell ⟨gc, ((Go.bits .and .i64 (ji22) 1) : Int).toNat, none⟩ (.int .i64 t199))) ?hg ?ho ?hn ?hr ?_; (case ho => rfl); (case hg => rfl); (case hn => rfl); (case hr => first | (go_simp; done) | (go_simp; rfl)); intro w33 hw; have hg : wr1.grownBy w33 (some gc) := (by rw [hw]; exact HP32.2); have hp_ : Kd.R (Kd.int .i64) 79 w33 w.heap.size (fun _ => True) (.slice (some ⟨gc, 0, none⟩) 2 2) y201 := (by rw [hw, Ny201.out]; exact HP32.1); clear HP32 hy32_ hz32_; have n0_ := Aside0.mk hp_; have n1_ := Aside0.mk (blk_grown (g := gb185) (o := .cells #[.int .i64 a0_0, .slice (some ad196) l0_1.length c0_1] 41 (0, 0)) BK185.out hg (Kd.R_ne HO_5.out BK185.out (by decide))); have n2_ := Aside0.mk ((by rw [hw]; exact below_set (HB.out) GC.out : Below w.heap.size w w33)); clear HO_5 BK185 HB; have HO_5 := n0_; have BK185 := n1_; have HB := n2_; clear n0_ n1_ n2_ hg hw hp_; have hcy : w33.cell? ⟨gc, ((Go.bits .and .i64 (ji22) 1) : Int).toNat, none⟩ = some (.int .i64 (rd y201 (Go.bits .and .i64 (ji22) 1))) := (Kd.R_celln 0 HO_5.out (Go.bits .and .i64 (ji22) 1) (of_eq_true p200) (of_eq_true q200)).1)))
                                      go_roundg k3
                                      case measure => have := HJ4.out; have := HK2.out; have := HK3.out; omega
                                      case rel => exact ⟨(y201), (wrap64 (x31_3 + 1)), (by first | rfl | (simp; done) | (simp [*]; done)), H', ⟨by have := HJ4.out; have := HK2.out; have := HK3.out; omega⟩, ⟨by (with_reducible repeat (first | apply Kd.R_alloc | apply Kd.R_drewN | apply Kd.R_drew)); exact HO_5.out⟩, ⟨by (with_reducible repeat (first | refine blk_drewN ?_ _ | refine blk_drew ?_ | refine blk_alloc ?_ _)); exact BK185.out⟩, ⟨by repeat (first | (with_reducible first | exact HB.out | apply below_alloc | apply pw_below_drewN | apply below_drew1 | refine below_set ?_ GE185.out) | exact HB.out)⟩⟩
                                    · rw [if_neg c29] at H
                                      have c29b0 : ((rd y201 (Go.bits .and .i64 (ji22) 1)) == t199) = false := beq_eq_false_iff_ne.mpr c29
                                      have c29b1 : ((rd y201 (Go.bits .and .i64 (ji22) 1)) != t199) = true := bne_iff_ne.mpr c29
                                      simp only [Option.some.injEq, Prod.mk.injEq] at H
                                      obtain ⟨rfl, rfl⟩ := H
                                      have hcz34_0 : wr.cell? ⟨gb185, 0, none⟩ = some (.int .i64 a0_0) := (blk_cell BK185.out 0).trans rfl
                                      have hcz34_1 : wr.cell? ⟨gb185, 1, none⟩ = some (.slice A0_1 l0_1.length c0_1) := (blk_cell BK185.out 1).trans rfl
                                      have hfz34_0 := blk_frozen BK185.out 0
                                      have hfz34_1 := blk_frozen BK185.out 1
                                      have p196 : 0 ≤ (x27_2 : Int) := of_decide_eq_true (by first | (with_reducible assumption) | assumption)
                                      have q196 : x27_2 < (l0_1.length : Int) := of_decide_eq_true (by first | (with_reducible assumption) | assumption)
                                      obtain ⟨ad196, e196, hx196_0⟩ := Kd.at_int HR0_1.out x27_2 p196 q196
                                      cases e196
                                      (try replace hx196_0 := (HB.out.cell (World.block_lt_of_cell? w _ hx196_0)).trans hx196_0)
                                      replace p196 := eq_true p196
                                      replace q196 := eq_true q196
                                      have p197 : 0 ≤ (x27_2 : Int) := of_decide_eq_true (by first | (with_reducible assumption) | assumption)
                                      have q197 : x27_2 < (l0_1.length : Int) := of_decide_eq_true (by first | (with_reducible assumption) | assumption)
                                      obtain ⟨ad197, e197, hx197_0⟩ := Kd.at_int HR0_1.out x27_2 p197 q197
                                      obtain rfl : ad196 = ad197 := (by injection e197)
                                      (try replace hx197_0 := (HB.out.cell (World.block_lt_of_cell? w _ hx197_0)).trans hx197_0)
                                      replace p197 := eq_true p197
                                      replace q197 := eq_true q197
                                      have p198 : 0 ≤ (x31_3 : Int) := of_decide_eq_true (by first | (with_reducible assumption) | assumption)
                                      have q198 : x31_3 < (l0_1.length : Int) := of_decide_eq_true (by first | (with_reducible assumption) | assumption)
                                      obtain ⟨ad198, e198, hx198_0⟩ := Kd.at_int HR0_1.out x31_3 p198 q198
                                      obtain rfl : ad196 = ad198 := (by injection e198)
                                      (try replace hx198_0 := (HB.out.cell (World.block_lt_of_cell? w _ hx198_0)).trans hx198_0)
                                      replace p198 := eq_true p198
                                      replace q198 := eq_true q198
                                      go_wp2_with (first | (go_at_call 72; (with_reducible refine (impl_size.calls (Go.bits .and .i64 (rd l0_1 x27_2) (rd l0_1 x31_3)) t199 _ A24.out).mono ?_); rintro e w' ⟨rfl, ⟨nd, rfl⟩⟩; (try first | exact ⟨rfl, _, World.drewN_drewN _ _ _⟩ | exact ⟨rfl, _, Eq.trans (World.drewN_drewN _ _ _) (congrArg (World.drewN _) (Nat.add_assoc _ _ _))⟩)) | ((with_reducible refine gate_store (t := 2) (p := 60) rfl ?_); generalize hq_ : World.drewN wr _ = wr1; have n0_ := Aside0.mk (show Kd.R (Kd.int .i64) 79 wr1 w.heap.size (fun _ => True) (.slice (some ⟨gc, 0, none⟩) 2 2) x5_3 from by rw [← hq_]; exact Kd.R_drewN HO_5.out _); have n1_ := Aside0.mk (show wr1.heap[gb185]? = some (.cells #[.int .i64 a0_0, .slice (some ad196) l0_1.length c0_1] 41 (0, 0)) from by rw [← hq_]; exact blk_drewN BK185.out _); have n2_ := Aside0.mk (show Below w.heap.size w wr1 from by rw [← hq_]; exact pw_below_drewN HB.out _); clear hcx hq_ HO_5 BK185 HB; have HO_5 := n0_; have BK185 := n1_; have HB := n2_; clear n0_ n1_ n2_; obtain ⟨hy32_, hz32_⟩ := Kd.R_celln 0 HO_5.out ((Go.bits .and .i64 (ji22) 1) : Int) (of_eq_true p200) (of_eq_true q200); have HP32 := Kd.R_putg HO_5.out ((Go.bits .and .i64 (ji22) 1) : Int) t199; refine store_event (t := 2) (p := 60) (v := ?vo_w33) (w1 := (wr1.setCell ⟨gc, ((Go.bits .and .i64 (ji22) 1) : Int).toNat, none⟩ (.int .i64 t199))) ?hg ?ho ?hn ?hr ?_; (case ho => rfl); (case hg => rfl); (case hn => rfl); (case hr => first | (go_simp; done) | (go_simp; rfl)); intro w33 hw; have hg : wr1.grownBy w33 (some gc) := (by rw [hw]; exact HP32.2); have hp_ : Kd.R (Kd.int .i64) 79 w33 w.heap.size (fun _ => True) (.slice (some ⟨gc, 0, none⟩) 2 2) y201 := (by rw [hw, Ny201.out]; exact HP32.1); clear HP32 hy32_ hz32_; have n0_ := Aside0.mk hp_; have n1_ := Aside0.mk (blk_grown (g := gb185) (o := .cells #[.int .i64 a0_0, .slice (some ad196) l0_1.length c0_1] 41 (0, 0)) BK185.out hg (Kd.R_ne HO_5.out BK185.out (by decide))); have n2_ := Aside0.mk ((by rw [hw]; exact below_set (HB.out) GC.out : Below w.heap.size w w33)); clear HO_5 BK185 HB; have HO_5 := n0_; have BK185 := n1_; have HB := n2_; clear n0_ n1_ n2_ hg hw hp_; have hcy : w33.cell? ⟨gc, ((Go.bits .and .i64 (ji22) 1) : Int).toNat, none⟩ = some (.int .i64 (rd y201 (Go.bits .and .i64 (ji22) 1))) := (Kd.R_celln 0 HO_5.out (Go.bits .and .i64 (ji22) 1) (of_eq_true p200) (of_eq_true q200)).1))
                                      repeat (go_quiet (first | (go_at_call 72; (with_reducible refine (impl_size.calls (Go.bits .and .i64 (rd l0_1 x27_2) (rd l0_1 x31_3)) t199 _ A24.out).mono ?_); rintro e w' ⟨rfl, ⟨nd, rfl⟩⟩; (try first | exact ⟨rfl, _, World.drewN_drewN _ _ _⟩ | exact ⟨rfl, _, Eq.trans (World.drewN_drewN _ _ _) (congrArg (World.drewN _) (Nat.add_assoc _ _ _))⟩)) | ((with_reducible refine gate_store (t := 2) (p := 60) rfl ?_); generalize hq_ : World.drewN wr _ = wr1; have n0_ := Aside0.mk (show Kd.R (Kd.int .i64) 79 wr1 w.heap.size (fun _ => True) (.slice (some ⟨gc, 0, none⟩) 2 2) x5_3 from by rw [← hq_]; exact Kd.R_drewN HO_5.out _); have n1_ := Aside0.mk (show wr1.heap[gb185]? = some (.cells #[.int .i64 a0_0, .slice (some ad196) l0_1.length c0_1] 41 (0, 0)) from by rw [← hq_]; exact blk_drewN BK185.out _); have n2_ := Aside0.mk (show Below w.heap.size w wr1 from by rw [← hq_]; exact pw_below_drewN HB.out _); clear hcx hq_ HO_5 BK185 HB; have HO_5 := n0_; have BK185 := n1_; have HB := n2_; clear n0_ n1_ n2_; obtain ⟨hy32_, hz32_⟩ := Kd.R_celln 0 HO_5.out ((Go.bits .and .i64 (ji22) 1) : Int) (of_eq_true p200) (of_eq_true q200); have HP32 := Kd.R_putg HO_5.out ((Go.bits .and .i64 (ji22) 1) : Int) t199; refine store_event (t := 2) (p := 60) (v := ?vo_w33) (w1 := (wr1.setCell ⟨gc, ((Go.bits .and .i64 (ji22) 1) : Int).toNat, none⟩ (.int .i64 t199))) ?hg ?ho ?hn ?hr ?_; (case ho => rfl); (case hg => rfl); (case hn => rfl); (case hr => first | (go_simp; done) | (go_simp; rfl)); intro w33 hw; have hg : wr1.grownBy w33 (some gc) := (by rw [hw]; exact HP32.2); have hp_ : Kd.R (Kd.int .i64) 79 w33 w.heap.size (fun _ => True) (.slice (some ⟨gc, 0, none⟩) 2 2) y201 := (by rw [hw, Ny201.out]; exact HP32.1); clear HP32 hy32_ hz32_; have n0_ := Aside0.mk hp_; have n1_ := Aside0.mk (blk_grown (g := gb185) (o := .cells #[.int .i64 a0_0, .slice (some ad196) l0_1.length c0_1] 41 (0, 0)) BK185.out hg (Kd.R_ne HO_5.out BK185.out (by decide))); have n2_ := Aside0.mk ((by rw [hw]; exact below_set (HB.out) GC.out : Below w.heap.size w w33)); clear HO_5 BK185 HB; have HO_5 := n0_; have BK185 := n1_; have HB := n2_; clear n0_ n1_ n2_ hg hw hp_; have hcy : w33.cell? ⟨gc, ((Go.bits .and .i64 (ji22) 1) : Int).toNat, none⟩ = some (.int .i64 (rd y201 (Go.bits .and .i64 (ji22) 1))) := (Kd.R_celln 0 HO_5.out (Go.bits .and .i64 (ji22) 1) (of_eq_true p200) (of_eq_true q200)).1)); try go_wp2_with (first | (go_at_call 72; (with_reducible refine (impl_size.calls (Go.bits .and .i64 (rd l0_1 x27_2) (rd l0_1 x31_3)) t199 _ A24.out).mono ?_); rintro e w' ⟨rfl, ⟨nd, rfl⟩⟩; (try first | exact ⟨rfl, _, World.drewN_drewN _ _ _⟩ | exact ⟨rfl, _, Eq.trans (World.drewN_drewN _ _ _) (congrArg (World.drewN _) (Nat.add_assoc _ _ _))⟩)) | ((with_reducible refine gate_store (t := 2) (p := 60) rfl ?_); generalize hq_ : World.drewN wr _ = wr1; have n0_ := Aside0.mk (show Kd.R (Kd.int .i64) 79 wr1 w.heap.size (fun _ => True) (.slice (some ⟨gc, 0, none⟩) 2 2) x5_3 from by rw [← hq_]; exact Kd.R_drewN HO_5.out _); have n1_ := Aside0.mk (show wr1.heap[gb185]? = some (.cells #[.int .i64 a0_0, .slice (some ad196) l0_1.length c0_1] 41 (0, 0)) from by rw [← hq_]; exact blk_drewN BK185.out _); have n2_ := Aside0.mk (show Below w.heap.size w wr1 from by rw [← hq_]; exact pw_below_drewN HB.out _); clear hcx hq_ HO_5 BK185 HB; have HO_5 := n0_; have BK185 := n1_; have HB := n2_; clear n0_ n1_ n2_; obtain ⟨hy32_, hz32_⟩ := Kd.R_celln 0 HO_5.out ((Go.bits .and .i64 (ji22) 1) : Int) (of_eq_true p200) (of_eq_true q200); have HP32 := Kd.R_putg HO_5.out ((Go.bits .and .i64 (ji22) 1) : Int) t199; refine store_event (t := 2) (p := 60) (v := ?vo_w33) (w1 := (wr1.setCell ⟨gc, ((Go.bits .and .i64 (ji22) 1) : Int).toNat, none⟩ (.int .i64 t199))) ?hg ?ho ?hn ?hr ?_; (case ho => rfl); (case hg => rfl); (case hn => rfl); (case hr => first | (go_simp; done) | (go_simp; rfl)); intro w33 hw; have hg : wr1.grownBy w33 (some gc) := (by rw [hw]; exact HP32.2); have hp_ : Kd.R (Kd.int .i64) 79 w33 w.heap.size (fun _ => True) (.slice (some ⟨gc, 0, none⟩) 2 2) y201 := (by rw [hw, Ny201.out]; exact HP32.1); clear HP32 hy32_ hz32_; have n0_ := Aside0.mk hp_; have n1_ := Aside0.mk (blk_grown (g := gb185) (o := .cells #[.int .i64 a0_0, .slice (some ad196) l0_1.length c0_1] 41 (0, 0)) BK185.out hg (Kd.R_ne HO_5.out BK185.out (by decide))); have n2_ := Aside0.mk ((by rw [hw]; exact below_set (HB.out) GC.out : Below w.heap.size w w33)); clear HO_5 BK185 HB; have HO_5 := n0_; have BK185 := n1_; have HB := n2_; clear n0_ n1_ n2_ hg hw hp_; have hcy : w33.cell? ⟨gc, ((Go.bits .and .i64 (ji22) 1) : Int).toNat, none⟩ = some (.int .i64 (rd y201 (Go.bits .and .i64 (ji22) 1))) := (Kd.R_celln 0 HO_5.out (Go.bits .and .i64 (ji22) 1) (of_eq_true p200) (of_eq_true q200)).1)))
                                      go_ret2
                                      exact ⟨_, by first | rfl | (simp [errW_none, errW_some] <;> rfl) | (simp only [← hji22]; first | rfl | (simp [errW_none, errW_some] <;> rfl)) | (simp [*, errW_none, errW_some] <;> rfl), by first | exact Kd.R_nil _ _ _ _ _ | exact Kd.N_nil _ _ _ _ _ | exact Kd.V_nil _ _ _ _ _ | exact Kd.Q_nil _ _ _ _ _ | exact Kd.S_nil _ _ _ _ _, by repeat (first | (with_reducible first | exact HB.out | apply below_alloc | apply pw_below_drewN | apply below_drew1 | refine below_set ?_ GE185.out) | exact HB.out)⟩
                                  · rw [if_neg c27] at H
                                    have c27b0 : decide ((rd x5_3 (Go.bits .and .i64 (ji22) 1)) < 0) = false := decide_eq_false c27
                                    clear c27
                                    by_cases c38 : (rd x5_3 (Go.bits .and .i64 (ji22) 1)) = t199
                                    · rw [if_pos c38] at H
                                      have c38b0 : ((rd x5_3 (Go.bits .and .i64 (ji22) 1)) == t199) = true := beq_iff_eq.mpr c38
                                      have c38b1 : ((rd x5_3 (Go.bits .and .i64 (ji22) 1)) != t199) = false := bne_eq_false_iff_eq.mpr c38
                                      clear c38
                                      have H' := Aside0.mk H
                                      clear H
                                      have hcz39_0 : wr.cell? ⟨gb185, 0, none⟩ = some (.int .i64 a0_0) := (blk_cell BK185.out 0).trans rfl
                                      have hcz39_1 : wr.cell? ⟨gb185, 1, none⟩ = some (.slice A0_1 l0_1.length c0_1) := (blk_cell BK185.out 1).trans rfl
                                      have hfz39_0 := blk_frozen BK185.out 0
                                      have hfz39_1 := blk_frozen BK185.out 1
                                      have p196 : 0 ≤ (x27_2 : Int) := of_decide_eq_true (by first | (with_reducible assumption) | assumption)
                                      have q196 : x27_2 < (l0_1.length : Int) := of_decide_eq_true (by first | (with_reducible assumption) | assumption)
                                      obtain ⟨ad196, e196, hx196_0⟩ := Kd.at_int HR0_1.out x27_2 p196 q196
                                      cases e196
                                      (try replace hx196_0 := (HB.out.cell (World.block_lt_of_cell? w _ hx196_0)).trans hx196_0)
                                      replace p196 := eq_true p196
                                      replace q196 := eq_true q196
                                      have p197 : 0 ≤ (x27_2 : Int) := of_decide_eq_true (by first | (with_reducible assumption) | assumption)
                                      have q197 : x27_2 < (l0_1.length : Int) := of_decide_eq_true (by first | (with_reducible assumption) | assumption)
                                      obtain ⟨ad197, e197, hx197_0⟩ := Kd.at_int HR0_1.out x27_2 p197 q197
                                      obtain rfl : ad196 = ad197 := (by injection e197)
                                      (try replace hx197_0 := (HB.out.cell (World.block_lt_of_cell? w _ hx197_0)).trans hx197_0)
                                      replace p197 := eq_true p197
                                      replace q197 := eq_true q197
                                      have p198 : 0 ≤ (x31_3 : Int) := of_decide_eq_true (by first | (with_reducible assumption) | assumption)
                                      have q198 : x31_3 < (l0_1.length : Int) := of_decide_eq_true (by first | (with_reducible assumption) | assumption)
                                      obtain ⟨ad198, e198, hx198_0⟩ := Kd.at_int HR0_1.out x31_3 p198 q198
                                      obtain rfl : ad196 = ad198 := (by injection e198)
                                      (try replace hx198_0 := (HB.out.cell (World.block_lt_of_cell? w _ hx198_0)).trans hx198_0)
                                      replace p198 := eq_true p198
                                      replace q198 := eq_true q198
                                      go_wp2_with (first | (go_at_call 72; (with_reducible refine (impl_size.calls (Go.bits .and .i64 (rd l0_1 x27_2) (rd l0_1 x31_3)) t199 _ A24.out).mono ?_); rintro e w' ⟨rfl, ⟨nd, rfl⟩⟩; (try first | exact ⟨rfl, _, World.drewN_drewN _ _ _⟩ | exact ⟨rfl, _, Eq.trans (World.drewN_drewN _ _ _) (congrArg (World.drewN _) (Nat.add_assoc _ _ _))⟩)))
                                      repeat (go_quiet (first | (go_at_call 72; (with_reducible refine (impl_size.calls (Go.bits .and .i64 (rd l0_1 x27_2) (rd l0_1 x31_3)) t199 _ A24.out).mono ?_); rintro e w' ⟨rfl, ⟨nd, rfl⟩⟩; (try first | exact ⟨rfl, _, World.drewN_drewN _ _ _⟩ | exact ⟨rfl, _, Eq.trans (World.drewN_drewN _ _ _) (congrArg (World.drewN _) (Nat.add_assoc _ _ _))⟩))); try go_wp2_with (first | (go_at_call 72; (with_reducible refine (impl_size.calls (Go.bits .and .i64 (rd l0_1 x27_2) (rd l0_1 x31_3)) t199 _ A24.out).mono ?_); rintro e w' ⟨rfl, ⟨nd, rfl⟩⟩; (try first | exact ⟨rfl, _, World.drewN_drewN _ _ _⟩ | exact ⟨rfl, _, Eq.trans (World.drewN_drewN _ _ _) (congrArg (World.drewN _) (Nat.add_assoc _ _ _))⟩))))
                                      go_roundg k3
                                      case measure => have := HJ4.out; have := HK2.out; have := HK3.out; omega
                                      case rel => exact ⟨(x5_3), (wrap64 (x31_3 + 1)), (by first | rfl | (simp; done) | (simp [*]; done)), H', ⟨by have := HJ4.out; have := HK2.out; have := HK3.out; omega⟩, ⟨by (with_reducible repeat (first | apply Kd.R_alloc | apply Kd.R_drewN | apply Kd.R_drew)); exact HO_5.out⟩, ⟨by (with_reducible repeat (first | refine blk_drewN ?_ _ | refine blk_drew ?_ | refine blk_alloc ?_ _)); exact BK185.out⟩, ⟨by repeat (first | (with_reducible first | exact HB.out | apply below_alloc | apply pw_below_drewN | apply below_drew1 | refine below_set ?_ GE185.out) | exact HB.out)⟩⟩
                                    · rw [if_neg c38] at H
                                      have c38b0 : ((rd x5_3 (Go.bits .and .i64 (ji22) 1)) == t199) = false := beq_eq_false_iff_ne.mpr c38
                                      have c38b1 : ((rd x5_3 (Go.bits .and .i64 (ji22) 1)) != t199) = true := bne_iff_ne.mpr c38
                                      simp only [Option.some.injEq, Prod.mk.injEq] at H
                                      obtain ⟨rfl, rfl⟩ := H
                                      have hcz41_0 : wr.cell? ⟨gb185, 0, none⟩ = some (.int .i64 a0_0) := (blk_cell BK185.out 0).trans rfl
                                      have hcz41_1 : wr.cell? ⟨gb185, 1, none⟩ = some (.slice A0_1 l0_1.length c0_1) := (blk_cell BK185.out 1).trans rfl
                                      have hfz41_0 := blk_frozen BK185.out 0
                                      have hfz41_1 := blk_frozen BK185.out 1
                                      have p196 : 0 ≤ (x27_2 : Int) := of_decide_eq_true (by first | (with_reducible assumption) | assumption)
                                      have q196 : x27_2 < (l0_1.length : Int) := of_decide_eq_true (by first | (with_reducible assumption) | assumption)
                                      obtain ⟨ad196, e196, hx196_0⟩ := Kd.at_int HR0_1.out x27_2 p196 q196
                                      cases e196
                                      (try replace hx196_0 := (HB.out.cell (World.block_lt_of_cell? w _ hx196_0)).trans hx196_0)
                                      replace p196 := eq_true p196
                                      replace q196 := eq_true q196
                                      have p197 : 0 ≤ (x27_2 : Int) := of_decide_eq_true (by first | (with_reducible assumption) | assumption)
                                      have q197 : x27_2 < (l0_1.length : Int) := of_decide_eq_true (by first | (with_reducible assumption) | assumption)
                                      obtain ⟨ad197, e197, hx197_0⟩ := Kd.at_int HR0_1.out x27_2 p197 q197
                                      obtain rfl : ad196 = ad197 := (by injection e197)
                                      (try replace hx197_0 := (HB.out.cell (World.block_lt_of_cell? w _ hx197_0)).trans hx197_0)
                                      replace p197 := eq_true p197
                                      replace q197 := eq_true q197
                                      have p198 : 0 ≤ (x31_3 : Int) := of_decide_eq_true (by first | (with_reducible assumption) | assumption)
                                      have q198 : x31_3 < (l0_1.length : Int) := of_decide_eq_true (by first | (with_reducible assumption) | assumption)
                                      obtain ⟨ad198, e198, hx198_0⟩ := Kd.at_int HR0_1.out x31_3 p198 q198
                                      obtain rfl : ad196 = ad198 := (by injection e198)
                                      (try replace hx198_0 := (HB.out.cell (World.block_lt_of_cell? w _ hx198_0)).trans hx198_0)
                                      replace p198 := eq_true p198
                                      replace q198 := eq_true q198
                                      go_wp2_with (first | (go_at_call 72; (with_reducible refine (impl_size.calls (Go.bits .and .i64 (rd l0_1 x27_2) (rd l0_1 x31_3)) t199 _ A24.out).mono ?_); rintro e w' ⟨rfl, ⟨nd, rfl⟩⟩; (try first | exact ⟨rfl, _, World.drewN_drewN _ _ _⟩ | exact ⟨rfl, _, Eq.trans (World.drewN_drewN _ _ _) (congrArg (World.drewN _) (Nat.add_assoc _ _ _))⟩)))
                                      repeat (go_quiet (first | (go_at_call 72; (with_reducible refine (impl_size.calls (Go.bits .and .i64 (rd l0_1 x27_2) (rd l0_1 x31_3)) t199 _ A24.out).mono ?_); rintro e w' ⟨rfl, ⟨nd, rfl⟩⟩; (try first | exact ⟨rfl, _, World.drewN_drewN _ _ _⟩ | exact ⟨rfl, _, Eq.trans (World.drewN_drewN _ _ _) (congrArg (World.drewN _) (Nat.add_assoc _ _ _))⟩))); try go_wp2_with (first | (go_at_call 72; (with_reducible refine (impl_size.calls (Go.bits .and .i64 (rd l0_1 x27_2) (rd l0_1 x31_3)) t199 _ A24.out).mono ?_); rintro e w' ⟨rfl, ⟨nd, rfl⟩⟩; (try first | exact ⟨rfl, _, World.drewN_drewN _ _ _⟩ | exact ⟨rfl, _, Eq.trans (World.drewN_drewN _ _ _) (congrArg (World.drewN _) (Nat.add_assoc _ _ _))⟩))))
                                      go_ret2
                                      exact ⟨_, by first | rfl | (simp [errW_none, errW_some] <;> rfl) | (simp only [← hji22]; first | rfl | (simp [errW_none, errW_some] <;> rfl)) | (simp [*, errW_none, errW_some] <;> rfl), by first | exact Kd.R_nil _ _ _ _ _ | exact Kd.N_nil _ _ _ _ _ | exact Kd.V_nil _ _ _ _ _ | exact Kd.Q_nil _ _ _ _ _ | exact Kd.S_nil _ _ _ _ _, by repeat (first | (with_reducible first | exact HB.out | apply below_alloc | apply pw_below_drewN | apply below_drew1 | refine below_set ?_ GE185.out) | exact HB.out)⟩
                                · rw [if_neg c26] at H
                                  exact absurd H (by simp)
                              · rw [if_neg c25] at H
                                exact absurd H (by simp)
                            · rw [if_neg c23] at H
                              exact absurd H (by simp)
                          · rw [if_neg c21] at H
                            exact absurd H (by simp)
                        · rw [if_neg c20] at H
                          exact absurd H (by simp)
                      · rw [if_neg c19] at H
                        exact absurd H (by simp)
                    · rw [if_neg c18] at H
                      have c18b0 : decide (x31_3 < x27_2) = false := decide_eq_false c18
                      clear c18
                      have H' := Aside0.mk H
                      clear H
                      go_wp2
                      go_roundg k3
                      case measure => have := HJ4.out; have := HK2.out; have := HK3.out; omega
                      case rel => exact ⟨(x5_3), (wrap64 (x27_2 + 1)), (by first | rfl | (simp; done) | (simp [*]; done)), H', ⟨by have := HJ4.out; have := HK2.out; have := HK3.out; omega⟩, ⟨by (with_reducible repeat (first | apply Kd.R_alloc | apply Kd.R_drewN | apply Kd.R_drew)); exact HO_5.out⟩, ⟨by (with_reducible repeat (first | refine blk_drewN ?_ _ | refine blk_drew ?_ | refine blk_alloc ?_ _)); exact BK185.out⟩, ⟨by repeat (first | (with_reducible first | exact HB.out | apply below_alloc | apply pw_below_drewN | apply below_drew1 | refine below_set ?_ GE185.out) | exact HB.out)⟩⟩
              · rw [if_neg c17] at H
                have c17b0 : decide (x27_2 < a0_0) = false := decide_eq_false c17
                clear c17
                obtain ⟨y193, hy193⟩ : ∃ y_ : List Int, y_ = (([a0_0, t187, rd x5_2 1, rd x5_2 0] : List Int)) := ⟨_, rfl⟩
                replace H : (some (y193, 0)) = some (r1, r2) := by first | (rw [hy193]; with_reducible exact H) | (have H2_ := (Option.bind_some _ _).symm.trans H; rw [hy193]; with_reducible exact H2_) | (have H2_ := (Option.bind_some _ _).symm.trans H; with_reducible exact H2_) | with_reducible exact H | (rw [hy193]; exact H) | exact H
                have Ny193 := Aside0.mk hy193
                clear hy193
                simp only [Option.some.injEq, Prod.mk.injEq] at H
                obtain ⟨rfl, rfl⟩ := H
                have hcz45_0 : wr.cell? ⟨gb185, 0, none⟩ = some (.int .i64 a0_0) := (blk_cell BK185.out 0).trans rfl
                have hcz45_1 : wr.cell? ⟨gb185, 1, none⟩ = some (.slice A0_1 l0_1.length c0_1) := (blk_cell BK185.out 1).trans rfl
                have hfz45_0 := blk_frozen BK185.out 0
                have hfz45_1 := blk_frozen BK185.out 1
                have hx191_0 : wr.cell? ⟨gc, 1, none⟩ = some (.int .i64 (rd x5_2 1)) := (Kd.R_celln 0 HO_5.out 1 (by decide) (by decide)).1
                have hx192_0 : wr.cell? ⟨gc, 0, none⟩ = some (.int .i64 (rd x5_2 0)) := (Kd.R_celln 0 HO_5.out 0 (by decide) (by decide)).1
                go_wp2_with (first | ((with_reducible refine gate_dst (N := 75) rfl ?_); refine Kd.R_lit (Kd.int .i64) _ 2 ?hg (N := 75) ?hd (xs := ([a0_0, t187, rd x5_2 1, rd x5_2 0] : List Int)) (inner := [.int .i64 a0_0, .int .i64 t187, .int .i64 (rd x5_2 1), .int .i64 (rd x5_2 0)]) (ok := fun _ => True) (okp := fun _ => True) ?hr ?hp (fun _ hk => hk) trivial (Below.refl _ _) (Nat.le_refl _) (by simp) ?_; (case hd => rfl); (case hg => rfl); (case hr => first | (go_simp; done) | (go_simp; rfl)); (case hp => exact (Reps.one (show Kd.M (Kd.int .i64) _ _ _ a0_0 [.int .i64 a0_0] from rfl) (Reps.one (show Kd.M (Kd.int .i64) _ _ _ t187 [.int .i64 t187] from rfl) (Reps.one (show Kd.M (Kd.int .i64) _ _ _ (rd x5_2 1) [.int .i64 (rd x5_2 1)] from rfl) (Reps.one (show Kd.M (Kd.int .i64) _ _ _ (rd x5_2 0) [.int .i64 (rd x5_2 0)] from rfl) (Reps.none _ _)))))); intro v194 w47 ho48 hb hg_ hnew_; clear hg_ hnew_; (first | rw [← Ny193.out] at ho48 | (simp only [Int.reduceToNat] at ho48; rw [← Ny193.out] at ho48)); have n0_ := Aside0.mk (Kd.R_elder' (by (with_reducible repeat (first | apply Kd.R_alloc | apply Kd.R_drewN | apply Kd.R_drew)); exact HO_5.out) (Kd.R_base ho48) hb); have n1_ := Aside0.mk (Kd.R_lower (Kd.R_new' ho48 (Kd.R_lt (by (with_reducible repeat (first | apply Kd.R_alloc | apply Kd.R_drewN | apply Kd.R_drew)); exact HO_5.out))) (below_size (by repeat (first | (with_reducible first | exact HB.out | apply below_alloc | apply pw_below_drewN | apply below_drew1 | refine below_set ?_ GE185.out) | exact HB.out)))); have n2_ := Aside0.mk (blk_below (g := gb185) (o := .cells #[.int .i64 a0_0, .slice A0_1 l0_1.length c0_1] 41 (0, 0)) (by (with_reducible repeat (first | refine blk_drewN ?_ _ | refine blk_drew ?_ | refine blk_alloc ?_ _)); exact BK185.out) hb); have n3_ := Aside0.mk (below_step (by repeat (first | (with_reducible first | exact HB.out | apply below_alloc | apply pw_below_drewN | apply below_drew1 | refine below_set ?_ GE185.out) | exact HB.out)) hb); clear HO_5; clear BK185; clear HB; have HO_5 := n0_; have HO195 := n1_; have BK185 := n2_; have HB := n3_; clear n0_ n1_ n2_ n3_; clear hb ho48))
                go_ret2
                exact ⟨_, by first | rfl | (simp [errW_none, errW_some] <;> rfl) | (simp [*, errW_none, errW_some] <;> rfl), by (with_reducible repeat (first | apply Kd.R_alloc | apply Kd.R_drewN | apply Kd.R_drew)); exact Kd.R_mono HO195.out (fun _ hk => trivial), by repeat (first | (with_reducible first | exact HB.out | apply below_alloc | apply pw_below_drewN | apply below_drew1 | refine below_set ?_ GE185.out) | exact HB.out)⟩
  · replace c3 := Bool.eq_false_iff.mpr c3
    subst c3
    have H1 : (some (([] : List Int), 1)) = some (r1, r2) := by rw [if_neg (show ¬ (false = true) by decide)] at H; exact H
    clear H
    have H := H1
    clear H1
    simp only [Option.some.injEq, Prod.mk.injEq] at H
    obtain ⟨rfl, rfl⟩ := H
    go_enter Try.func39, Try.ntmps39
    go_wp2_with (first | ((with_reducible refine gate_dst (N := 1) rfl ?_); refine box_event ?hg (N := 1) ?hd (cs := #[.int .i64 a0_0, .slice A0_1 l0_1.length c0_1]) (t := 41) ?hr ?_; (case hd => rfl); (case hg => rfl); (case hr => first | (go_simp; done) | (go_simp; rfl)); intro gb185 hg w49 hbox hb; have n0_ := Aside0.mk (below_step (by repeat (first | (with_reducible first | exact HB.out | apply below_alloc | apply pw_below_drewN | apply below_drew1) | exact HB.out)) hb); have n1_ := Aside0.mk (hbox); have n2_ := Aside0.mk ((by rw [hg]; exact (below_size (by repeat (first | (with_reducible first | exact HB.out | apply below_alloc | apply pw_below_drewN | apply below_drew1) | exact HB.out))) : w.heap.size ≤ gb185)); have n3_ := Aside0.mk ((by rw [hg]; exact (below_size (by repeat (first | (with_reducible first | exact HB.out | apply below_alloc | apply pw_below_drewN | apply below_drew1) | exact HB.out))) : w.heap.size ≤ gb185)); clear HB; have HB := n0_; have BK185 := n1_; have GW185 := n2_; have GE185 := n3_; clear n0_ n1_ n2_ n3_; clear hb hbox hg; have hcz50_0 : w49.cell? ⟨gb185, 0, none⟩ = some (.int .i64 a0_0) := (blk_cell BK185.out 0).trans rfl; have hcz50_1 : w49.cell? ⟨gb185, 1, none⟩ = some (.slice A0_1 l0_1.length c0_1) := (blk_cell BK185.out 1).trans rfl; have hfz50_0 := blk_frozen BK185.out 0; have hfz50_1 := blk_frozen BK185.out 1) | (go_at_call 59; (with_reducible refine (impl_IsGraph.calls k a0_0 _ _ l0_1 false _ ?side1 ?side2 A2.out).mono ?_); (case side1 => repeat (first | exact (Kd.C_below HR0_1.out HB.out) | (with_reducible refine Kd.C_alloc ?_ _) | (with_reducible refine Kd.C_drewN ?_ _) | (with_reducible refine Kd.C_drew ?_))); (case side2 => exact HC0_1.out); rintro e w51 ⟨rfl, hb⟩; have n0_ := Aside0.mk (blk_below (g := gb185) (o := .cells #[.int .i64 a0_0, .slice A0_1 l0_1.length c0_1] 41 (0, 0)) (by (with_reducible repeat (first | refine blk_drewN ?_ _ | refine blk_drew ?_ | refine blk_alloc ?_ _)); exact BK185.out) hb); have n1_ := Aside0.mk (below_step (by repeat (first | (with_reducible first | exact HB.out | apply below_alloc | apply pw_below_drewN | apply below_drew1 | refine below_set ?_ GE185.out) | exact HB.out)) hb); clear BK185; clear HB; have BK185 := n0_; have HB := n1_; clear n0_ n1_; (try clear hb); (try clear hb2); (try clear hk); (try clear hi)))
    go_ret2
    exact ⟨_, by first | rfl | (simp [errW_none, errW_some] <;> rfl) | (simp [*, errW_none, errW_some] <;> rfl), by first | exact Kd.R_nil _ _ _ _ _ | exact Kd.N_nil _ _ _ _ _ | exact Kd.V_nil _ _ _ _ _ | exact Kd.Q_nil _ _ _ _ _ | exact Kd.S_nil _ _ _ _ _, by repeat (first | (with_reducible first | exact HB.out | apply below_alloc | apply pw_below_drewN | apply below_drew1 | refine below_set ?_ GE185.out) | exact HB.out)⟩

end Go.Proofs.Ytcffgfomicpbfaa.P
