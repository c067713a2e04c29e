-- Printed by a program of this workplace (wip/xp/xp.py) over the kit's print.
import Derived.Test.YtanhfejpdhneiaaP0
import Derived.Test.YtanhfejpdhneiaaP38
import Derived.Test.YtanhfejpdhneiaaP69
namespace Go.Proofs.Ytanhfejpdhneiaa.P
open Go.RowKit Go.Proofs.YtanhfejpdhneiaaW.PrintWords Go.Proofs.YtanhfejpdhneiaaW.PrintLast Go.Proofs.YtanhfejpdhneiaaW.PrintMore
attribute [local go_sem] max2_int min2_int max_two min_two max_three min_three max_four min_four   -- for this text's walks alone
set_option linter.unusedVariables false
set_option linter.unusedSimpArgs false

/-! ### spec_l08Degree: function 79 -/
def spec_l08Degree.l0 : Nat → Int → Int → Int → List Int → Int → List Int → Option (Int)
  | 0, _, _, _, _, _, _ => none
  | k + 1, x4, x5, x531000, x531001, x536000, x536001 => if x5 < (x531001.length : Int) then (if 0 ≤ x5 then ((spec_l01Bits.f k (rd x531001 x5)).bind fun t539 => (if t539 = x4 then (if x5 < (x536001.length : Int) then ((spec_l01Bits.f k (rd x536001 x5)).bind fun t541 => (if t541 = x4 then (spec_l08Degree.l0 k x4 (wrap64 (x5 + 1)) x531000 x531001 x536000 x536001) else (some (-1)))) else (none)) else (some (-1)))) else (none)) else (some x4)
def spec_l08Degree.f (k : Nat) (a0_0 : Int) (l0_1 : List Int) : Option (Int) := (spec_l08Reverse.f k a0_0 l0_1).bind fun bt531 => (if 0 < (l0_1.length : Int) then ((spec_l01Bits.f k (rd l0_1 0)).bind fun t537 => (spec_l08Degree.l0 k t537 0 a0_0 l0_1 bt531.1 bt531.2)) else (none))
theorem spec_l08Degree.mono_l : ∀ k, (∀ y0 y1 y2 y3 y4 y5, LeO (spec_l08Degree.l0 k y0 y1 y2 y3 y4 y5) (spec_l08Degree.l0 (k + 1) y0 y1 y2 y3 y4 y5))
  | 0 => fun _ _ _ _ _ _ r h => by simp [spec_l08Degree.l0] at h
  | k + 1 => by
    have ih0 := spec_l08Degree.mono_l k
    · intro y0 y1 y2 y3 y4 y5
      unfold spec_l08Degree.l0
      repeat' first
      | (with_reducible exact ih0 _ _ _ _ _ _)
      | (with_reducible exact spec_l01Bits.mono _ _)
      | (with_reducible exact spec_l08Reverse.mono _ _ _)
      | (with_reducible exact LeO.refl _)
      | (with_reducible exact LeO.none _)
      | (with_reducible refine LeO.ite ?_ ?_)
      | (with_reducible refine LeO.bind ?_ (fun _ => ?_))
      | exact ih0 _ _ _ _ _ _
      | exact spec_l01Bits.mono _ _
      | exact spec_l08Reverse.mono _ _ _
      | exact LeO.none _
      | refine LeO.ite ?_ ?_
      | refine LeO.bind ?_ (fun _ => ?_)
theorem spec_l08Degree.mono : ∀ a0 a1 k, LeO (spec_l08Degree.f k a0 a1) (spec_l08Degree.f (k + 1) a0 a1) := by
  intro a0 a1 k
  have ih0 := spec_l08Degree.mono_l k
  unfold spec_l08Degree.f
  repeat' first
      | (with_reducible exact ih0 _ _ _ _ _ _)
      | (with_reducible exact spec_l01Bits.mono _ _)
      | (with_reducible exact spec_l08Reverse.mono _ _ _)
      | (with_reducible exact LeO.refl _)
      | (with_reducible exact LeO.none _)
      | (with_reducible refine LeO.ite ?_ ?_)
      | (with_reducible refine LeO.bind ?_ (fun _ => ?_))
      | exact ih0 _ _ _ _ _ _
      | exact spec_l01Bits.mono _ _
      | exact spec_l08Reverse.mono _ _ _
      | exact LeO.none _
      | refine LeO.ite ?_ ?_
      | refine LeO.bind ?_ (fun _ => ?_)
set_option maxHeartbeats 8000000 in
set_option maxRecDepth 100000 in
theorem spec_l08Degree.calls (k : Nat) (a0_0 : Int) (A0_1 : Option Addr) (c0_1 : Nat) (l0_1 : List Int) (r : Int) (w : World) (hr0_1 : Kd.C (Kd.int .i64) w A0_1 l0_1.length l0_1) (hc0_1 : l0_1.length ≤ c0_1) (h : spec_l08Degree.f k a0_0 l0_1 = some r) :
    Calls Try.prog 79 #[.agg #[.int .i64 a0_0, .slice A0_1 l0_1.length c0_1]] w fun e w' => e = .returned (.int .i64 r) ∧ Below w.heap.size w w' := by
  have hu24 := Try.underlying24
  have HR0_1 := Aside0.mk hr0_1
  have HC0_1 := Aside0.mk hc0_1
  clear hr0_1 hc0_1
  have HB := Aside0.mk (Below.refl w.heap.size w)
  have H : ((spec_l08Reverse.f k a0_0 l0_1).bind fun bt531 => (if 0 < (l0_1.length : Int) then ((spec_l01Bits.f k (rd l0_1 0)).bind fun t537 => (spec_l08Degree.l0 k t537 0 a0_0 l0_1 bt531.1 bt531.2)) else (none))) = some r := h
  clear h
  replace H := Option.bind_eq_some_iff.mp H
  obtain ⟨⟨t531, t532⟩, A20, H⟩ := H
  replace H : (if 0 < (l0_1.length : Int) then ((spec_l01Bits.f k (rd l0_1 0)).bind fun t537 => (spec_l08Degree.l0 k t537 0 a0_0 l0_1 t531 t532)) else (none)) = some r := H
  have A2 := Aside0.mk A20
  clear A20
  by_cases c3 : 0 < (l0_1.length : Int)
  · rw [if_pos c3] at H
    have c3b0 : decide (0 < (l0_1.length : Int)) = true := decide_eq_true c3
    have c3b1 : decide (0 < l0_1.length) = true := decide_eq_true (by omega)
    clear c3
    replace H := Option.bind_eq_some_iff.mp H
    obtain ⟨t537, A40, H⟩ := H
    replace H : (spec_l08Degree.l0 k t537 0 a0_0 l0_1 t531 t532) = some r := H
    have A4 := Aside0.mk A40
    clear A40
    have H' := Aside0.mk H
    clear H
    go_enter Try.func79, Try.ntmps79
    go_wp2_with (first | ((with_reducible refine gate_dst (N := 1) rfl ?_); refine box_event ?hg (N := 1) ?hd (cs := #[.int .i64 a0_0, .slice A0_1 l0_1.length c0_1]) (t := 24) ?hr ?_; (case hd => rfl); (case hg => rfl); (case hr => first | (go_simp; done) | (go_simp; rfl)); intro gb530 hg w5 hbox hb; have n0_ := Aside0.mk (below_step (by repeat (first | (with_reducible first | exact HB.out | apply below_alloc | apply pw_below_drewN | apply below_drew1) | exact HB.out)) hb); have n1_ := Aside0.mk (hbox); have n2_ := Aside0.mk ((by rw [hg]; exact (below_size (by repeat (first | (with_reducible first | exact HB.out | apply below_alloc | apply pw_below_drewN | apply below_drew1) | exact HB.out))) : w.heap.size ≤ gb530)); have n3_ := Aside0.mk ((by rw [hg]; exact (below_size (by repeat (first | (with_reducible first | exact HB.out | apply below_alloc | apply pw_below_drewN | apply below_drew1) | exact HB.out))) : w.heap.size ≤ gb530)); clear HB; have HB := n0_; have BK530 := n1_; have GW530 := n2_; have GE530 := n3_; clear n0_ n1_ n2_ n3_; clear hb hbox hg; have hcz6_0 : w5.cell? ⟨gb530, 0, none⟩ = some (.int .i64 a0_0) := (blk_cell BK530.out 0).trans rfl; have hcz6_1 : w5.cell? ⟨gb530, 1, none⟩ = some (.slice A0_1 l0_1.length c0_1) := (blk_cell BK530.out 1).trans rfl; have hfz6_0 := blk_frozen BK530.out 0; have hfz6_1 := blk_frozen BK530.out 1) | ((with_reducible refine gate_callee (f := 114) rfl ?_); refine goesL_ (some 7) rfl rfl Try.func114 (by kernel_rfl) rfl #[.agg #[.int .i64 a0_0, .slice A0_1 l0_1.length c0_1]] rfl (by (try simp only [List.map_toArray, List.map_cons, List.map_nil]); first | done | rfl | (simp only [List.length_drop, List.length_take]; rfl)) ?_; (with_reducible refine (spec_l08Reverse.calls k a0_0 _ _ l0_1 t531 t532 _ ?side1 ?side2 A2.out).mono ?_); (case side1 => repeat (first | exact (Kd.C_below HR0_1.out HB.out) | (with_reducible refine Kd.C_alloc ?_ _) | (with_reducible refine Kd.C_drewN ?_ _) | (with_reducible refine Kd.C_drew ?_))); (case side2 => exact HC0_1.out); rintro e w7 ⟨v533, rfl, ho0, hb⟩; refine ⟨_, rfl, ?_⟩; have n0_ := Aside0.mk (Kd.R_lower ho0 (below_size (by repeat (first | (with_reducible first | exact HB.out | apply below_alloc | apply pw_below_drewN | apply below_drew1 | refine below_set ?_ GE530.out) | exact HB.out)))); have n1_ := Aside0.mk (blk_below (g := gb530) (o := .cells #[.int .i64 a0_0, .slice A0_1 l0_1.length c0_1] 24 (0, 0)) (by (with_reducible repeat (first | refine blk_drewN ?_ _ | refine blk_drew ?_ | refine blk_alloc ?_ _)); exact BK530.out) hb); have n2_ := Aside0.mk (below_step (by repeat (first | (with_reducible first | exact HB.out | apply below_alloc | apply pw_below_drewN | apply below_drew1 | refine below_set ?_ GE530.out) | exact HB.out)) hb); clear BK530; clear HB; have HO534 := n0_; have BK530 := n1_; have HB := n2_; clear n0_ n1_ n2_; (try clear hb); (try clear hb2); (try clear hk); (try clear hi); (try clear ho0)) | ((with_reducible refine gate_dst (N := 3) rfl ?_); refine box_event ?hg (N := 3) ?hd (cs := #[.int .i64 0, .slice none 0 0]) (t := 24) ?hr ?_; (case hd => rfl); (case hg => rfl); (case hr => first | (go_simp; done) | (go_simp; rfl)); intro gb535 hg w8 hbox hb; have n0_ := Aside0.mk (Kd.R_below (by (with_reducible repeat (first | apply Kd.R_alloc | apply Kd.R_drewN | apply Kd.R_drew)); exact HO534.out) hb); have n1_ := Aside0.mk (blk_below (g := gb530) (o := .cells #[.int .i64 a0_0, .slice A0_1 l0_1.length c0_1] 24 (0, 0)) (by (with_reducible repeat (first | refine blk_drewN ?_ _ | refine blk_drew ?_ | refine blk_alloc ?_ _)); exact BK530.out) hb); have n2_ := Aside0.mk (below_step (by repeat (first | (with_reducible first | exact HB.out | apply below_alloc | apply pw_below_drewN | apply below_drew1 | refine below_set ?_ GE530.out) | exact HB.out)) hb); have n3_ := Aside0.mk (hbox); have n4_ := Aside0.mk ((by rw [hg]; exact (below_size (by repeat (first | (with_reducible first | exact HB.out | apply below_alloc | apply pw_below_drewN | apply below_drew1 | refine below_set ?_ GE530.out) | exact HB.out))) : w.heap.size ≤ gb535)); have n5_ := Aside0.mk ((by rw [hg]; exact (below_size (by repeat (first | (with_reducible first | exact HB.out | apply below_alloc | apply pw_below_drewN | apply below_drew1 | refine below_set ?_ GE530.out) | exact HB.out))) : w.heap.size ≤ gb535)); have n6_ := Aside0.mk ((by rw [hg]; exact Nat.ne_of_lt (blk_lt (g := gb530) (o := .cells #[.int .i64 a0_0, .slice A0_1 l0_1.length c0_1] 24 (0, 0)) (by (with_reducible repeat (first | refine blk_drewN ?_ _ | refine blk_drew ?_ | refine blk_alloc ?_ _)); exact BK530.out)) : gb530 ≠ gb535)); have n7_ := Aside0.mk ((by rw [hg]; exact Nat.ne_of_gt (blk_lt (g := gb530) (o := .cells #[.int .i64 a0_0, .slice A0_1 l0_1.length c0_1] 24 (0, 0)) (by (with_reducible repeat (first | refine blk_drewN ?_ _ | refine blk_drew ?_ | refine blk_alloc ?_ _)); exact BK530.out)) : gb535 ≠ gb530)); clear HO534; clear BK530; clear HB; have HO534 := n0_; have BK530 := n1_; have HB := n2_; have BK535 := n3_; have GW535 := n4_; have GE535 := n5_; have NB530_535 := n6_; have NB535_530 := n7_; clear n0_ n1_ n2_ n3_ n4_ n5_ n6_ n7_; clear hb hbox hg; have hnb9 := NB535_530.out; have hnc9 := NB530_535.out; have hcz10_0 : w8.cell? ⟨gb535, 0, none⟩ = some (.int .i64 0) := (blk_cell BK535.out 0).trans rfl; have hcz10_1 : w8.cell? ⟨gb535, 1, none⟩ = some (.slice none 0 0) := (blk_cell BK535.out 1).trans rfl; have hfz10_0 := blk_frozen BK535.out 0; have hfz10_1 := blk_frozen BK535.out 1; obtain ⟨Ao11, co11, eo11⟩ := Kd.R_slice HO534.out; subst eo11; have hcz12_0 : w8.cell? ⟨gb530, 0, none⟩ = some (.int .i64 a0_0) := (blk_cell BK530.out 0).trans rfl; have hcz12_1 : w8.cell? ⟨gb530, 1, none⟩ = some (.slice A0_1 l0_1.length c0_1) := (blk_cell BK530.out 1).trans rfl; have hfz12_0 := blk_frozen BK530.out 0; have hfz12_1 := blk_frozen BK530.out 1; have p536 : 0 ≤ (0 : Int) := (by omega); have q536 : 0 < (l0_1.length : Int) := of_decide_eq_true (by first | (with_reducible assumption) | assumption); obtain ⟨ad536, e536, hx536_0⟩ := Kd.at_int HR0_1.out 0 p536 q536; cases e536; have qi536 : (0 < l0_1.length) = True := eq_true (by omega); (try rw [show ((0 : Int)).toNat = 0 from rfl] at hx536_0); (try rw [Addr.add_zero'] at hx536_0); have hn536_0 : ad536.block ≠ gb535 := Nat.ne_of_lt (Nat.lt_of_lt_of_le (by have := World.block_lt_of_cell? _ _ hx536_0; first | rwa [add_block] at this | exact this) GW535.out); have hn536_1 : ad536.block ≠ gb535 := Nat.ne_of_lt (Nat.lt_of_lt_of_le (by have := World.block_lt_of_cell? _ _ hx536_0; first | rwa [add_block] at this | exact this) GW535.out); replace hx536_0 := (HB.out.cell (World.block_lt_of_cell? w _ hx536_0)).trans hx536_0; replace hx536_0 := (cell_far (p := ⟨gb535, 0, none⟩) (by first | (rw [add_block]; exact hn536_0) | (show (Addr.add _ _).block ≠ _; rw [add_block]; exact hn536_0) | exact hn536_0) (.int .i64 t531)).trans hx536_0; replace hx536_0 := (cell_far (p := ⟨gb535, 1, none⟩) (by first | (rw [add_block]; exact hn536_1) | (show (Addr.add _ _).block ≠ _; rw [add_block]; exact hn536_1) | exact hn536_1) (.slice Ao11 t532.length co11)).trans hx536_0; clear hn536_0; clear hn536_1; replace p536 := eq_true p536; replace q536 := eq_true q536) | ((with_reducible refine gate_callee (f := 84) rfl ?_); refine goesL_ (some 12) rfl rfl Try.func84 (by kernel_rfl) rfl #[.int .i64 (rd l0_1 0)] rfl (by (try simp only [List.map_toArray, List.map_cons, List.map_nil]); first | done | rfl | (simp only [List.length_drop, List.length_take]; rfl)) ?_; (with_reducible refine (spec_l01Bits.calls k (rd l0_1 0) t537 _ A4.out).mono ?_); rintro e w' ⟨rfl, ⟨nd, rfl⟩⟩; refine ⟨_, rfl, ?_⟩))
    go_loopg [5] k (fun kq v5 w' => ∃ (x5_1 : Int), v5 = .int .i64 x5_1 ∧ Aside0 (spec_l08Degree.l0 kq t537 x5_1 a0_0 l0_1 t531 t532 = some r) ∧ Aside0 (kq ≤ k) ∧ Aside0 (Kd.R (Kd.int .i64) 2 w' w.heap.size (fun _ => True) (.slice Ao11 t532.length co11) t532) ∧ Aside0 (w'.heap[gb530]? = some (.cells #[.int .i64 a0_0, (.slice (some ad536) l0_1.length c0_1)] 24 (0, 0))) ∧ Aside0 (w'.heap[gb535]? = some (.cells #[.int .i64 t531, (.slice Ao11 t532.length co11)] 24 (0, 0))) ∧ Aside0 (Below w.heap.size w w'))
    case atStart => exact ⟨(0), (by first | rfl | (simp; done) | (simp [*]; done)), H', ⟨Nat.le_refl _⟩, ⟨by (with_reducible repeat (first | apply Kd.R_alloc | apply Kd.R_drewN | apply Kd.R_drew)); exact Kd.R_mono (Kd.R_far (p := ⟨gb535, 1, none⟩) (Kd.R_far (p := ⟨gb535, 0, none⟩) (Kd.R_types HO534.out BK535.out (by decide)) (fun _ hk => hk.2) (.int .i64 t531)) (fun _ hk => hk.2) (.slice Ao11 t532.length co11)) (fun _ hk => trivial)⟩, ⟨by (with_reducible repeat (first | refine blk_drewN ?_ _ | refine blk_drew ?_ | refine blk_alloc ?_ _)); refine blk_far ?_ NB530_535.out _; (with_reducible repeat (first | refine blk_drewN ?_ _ | refine blk_drew ?_ | refine blk_alloc ?_ _)); refine blk_far ?_ NB530_535.out _; (with_reducible repeat (first | refine blk_drewN ?_ _ | refine blk_drew ?_ | refine blk_alloc ?_ _)); exact BK530.out⟩, ⟨by (with_reducible repeat (first | refine blk_drewN ?_ _ | refine blk_drew ?_ | refine blk_alloc ?_ _)); refine blk_put (cs := #[.int .i64 t531, .slice none 0 0]) ?_ 1 _ rfl; (with_reducible repeat (first | refine blk_drewN ?_ _ | refine blk_drew ?_ | refine blk_alloc ?_ _)); refine blk_put (cs := #[.int .i64 0, .slice none 0 0]) ?_ 0 _ rfl; (with_reducible repeat (first | refine blk_drewN ?_ _ | refine blk_drew ?_ | refine blk_alloc ?_ _)); exact BK535.out⟩, ⟨by repeat (first | (with_reducible first | exact HB.out | apply below_alloc | apply pw_below_drewN | apply below_drew1 | refine below_set ?_ GE530.out | refine below_set ?_ GE535.out) | exact HB.out)⟩⟩
    case round =>
      clear H'
      try clear c1
      try clear p2
      try clear c3
      try clear c3b0
      try clear c3b1
      try clear p5
      try clear q5
      try clear hx5
      try clear qi5
      try clear c7
      try clear c8
      try clear c9
      try clear c11
      try clear hcz10_0
      try clear hcz10_1
      try clear hcz12_0
      try clear hcz12_1
      try clear hcz6_0
      try clear hcz6_1
      try clear hfz10_0
      try clear hfz10_1
      try clear hfz12_0
      try clear hfz12_1
      try clear hfz6_0
      try clear hfz6_1
      try clear hx536_0
      try clear p536
      try clear q536
      obtain ⟨x5_1, rfl, HA, HK1, HO_536001, BK530, BK535, HB⟩ := hrel
      cases gk with
      | zero => exact absurd HA.out (by simp [spec_l08Degree.l0])
      | succ k1 =>
        have H := HA.out
        clear HA
        simp only [spec_l08Degree.l0] at H
        by_cases c13 : x5_1 < (l0_1.length : Int)
        · rw [if_pos c13] at H
          have c13b0 : decide (x5_1 < (l0_1.length : Int)) = true := decide_eq_true c13
          clear c13
          by_cases c14 : 0 ≤ x5_1
          · rw [if_pos c14] at H
            have c14b0 : decide (0 ≤ x5_1) = true := decide_eq_true c14
            clear c14
            replace H := Option.bind_eq_some_iff.mp H
            obtain ⟨t539, A150, H⟩ := H
            replace H : (if t539 = t537 then (if x5_1 < (t532.length : Int) then ((spec_l01Bits.f k1 (rd t532 x5_1)).bind fun t541 => (if t541 = t537 then (spec_l08Degree.l0 k1 t537 (wrap64 (x5_1 + 1)) a0_0 l0_1 t531 t532) else (some (-1)))) else (none)) else (some (-1))) = some r := H
            have A15 := Aside0.mk A150
            clear A150
            by_cases c16 : t539 = t537
            · rw [if_pos c16] at H
              have c16b0 : (t539 == t537) = true := beq_iff_eq.mpr c16
              have c16b1 : (t539 != t537) = false := bne_eq_false_iff_eq.mpr c16
              clear c16
              by_cases c17 : x5_1 < (t532.length : Int)
              · rw [if_pos c17] at H
                have c17b0 : decide (x5_1 < (t532.length : Int)) = true := decide_eq_true c17
                clear c17
                replace H := Option.bind_eq_some_iff.mp H
                obtain ⟨t541, A180, H⟩ := H
                replace H : (if t541 = t537 then (spec_l08Degree.l0 k1 t537 (wrap64 (x5_1 + 1)) a0_0 l0_1 t531 t532) else (some (-1))) = some r := H
                have A18 := Aside0.mk A180
                clear A180
                by_cases c19 : t541 = t537
                · rw [if_pos c19] at H
                  have c19b0 : (t541 == t537) = true := beq_iff_eq.mpr c19
                  have c19b1 : (t541 != t537) = false := bne_eq_false_iff_eq.mpr c19
                  clear c19
                  have H' := Aside0.mk H
                  clear H
                  have hnb20 := NB530_535.out
                  have hnc20 := NB535_530.out
                  have hcz21_0 : wr.cell? ⟨gb530, 0, none⟩ = some (.int .i64 a0_0) := (blk_cell BK530.out 0).trans rfl
                  have hcz21_1 : wr.cell? ⟨gb530, 1, none⟩ = some (.slice (some ad536) l0_1.length c0_1) := (blk_cell BK530.out 1).trans rfl
                  have hfz21_0 := blk_frozen BK530.out 0
                  have hfz21_1 := blk_frozen BK530.out 1
                  have p538 : 0 ≤ (x5_1 : Int) := of_decide_eq_true (by first | (with_reducible assumption) | assumption)
                  have q538 : x5_1 < (l0_1.length : Int) := of_decide_eq_true (by first | (with_reducible assumption) | assumption)
                  obtain ⟨ad538, e538, hx538_0⟩ := Kd.at_int HR0_1.out x5_1 p538 q538
                  obtain rfl : ad536 = ad538 := (by injection e538)
                  replace hx538_0 := (HB.out.cell (World.block_lt_of_cell? w _ hx538_0)).trans hx538_0
                  replace p538 := eq_true p538
                  replace q538 := eq_true q538
                  go_wp2_with (first | ((with_reducible refine gate_callee (f := 84) rfl ?_); refine goesL_ (some 25) rfl rfl Try.func84 (by kernel_rfl) rfl #[.int .i64 (rd l0_1 x5_1)] rfl (by (try simp only [List.map_toArray, List.map_cons, List.map_nil]); first | done | rfl | (simp only [List.length_drop, List.length_take]; rfl)) ?_; (with_reducible refine (spec_l01Bits.calls k1 (rd l0_1 x5_1) t539 _ A15.out).mono ?_); rintro e w' ⟨rfl, ⟨nd, rfl⟩⟩; refine ⟨_, rfl, ?_⟩; have hcz22_0 : wr.cell? ⟨gb535, 0, none⟩ = some (.int .i64 t531) := (blk_cell BK535.out 0).trans rfl; have hcz22_1 : wr.cell? ⟨gb535, 1, none⟩ = some (.slice Ao11 t532.length co11) := (blk_cell BK535.out 1).trans rfl; have hfz22_0 := blk_frozen BK535.out 0; have hfz22_1 := blk_frozen BK535.out 1; have p540 : 0 ≤ (x5_1 : Int) := of_decide_eq_true (by first | (with_reducible assumption) | assumption); have q540 : x5_1 < (t532.length : Int) := of_decide_eq_true (by first | (with_reducible assumption) | assumption); obtain ⟨ad540, e540, hx540_0⟩ := Kd.at_int (Kd.R_reads' HO_536001.out).2.2 x5_1 p540 q540; cases e540; replace p540 := eq_true p540; replace q540 := eq_true q540) | (go_at_call 84; (with_reducible refine (spec_l01Bits.calls k1 (rd t532 x5_1) t541 _ A18.out).mono ?_); rintro e w' ⟨rfl, ⟨nd, rfl⟩⟩))
                  go_roundg k1
                  case measure => have := HK1.out; omega
                  case rel => exact ⟨(wrap64 (x5_1 + 1)), (by first | rfl | (simp; done) | (simp [*]; done)), H', ⟨by have := HK1.out; omega⟩, ⟨by (with_reducible repeat (first | apply Kd.R_alloc | apply Kd.R_drewN | apply Kd.R_drew)); exact HO_536001.out⟩, ⟨by (with_reducible repeat (first | refine blk_drewN ?_ _ | refine blk_drew ?_ | refine blk_alloc ?_ _)); exact BK530.out⟩, ⟨by (with_reducible repeat (first | refine blk_drewN ?_ _ | refine blk_drew ?_ | refine blk_alloc ?_ _)); exact BK535.out⟩, ⟨by repeat (first | (with_reducible first | exact HB.out | apply below_alloc | apply pw_below_drewN | apply below_drew1 | refine below_set ?_ GE530.out | refine below_set ?_ GE535.out) | exact HB.out)⟩⟩
                · rw [if_neg c19] at H
                  have c19b0 : (t541 == t537) = false := beq_eq_false_iff_ne.mpr c19
                  have c19b1 : (t541 != t537) = true := bne_iff_ne.mpr c19
                  obtain rfl := Option.some.inj H
                  have hnb23 := NB530_535.out
                  have hnc23 := NB535_530.out
                  have hcz24_0 : wr.cell? ⟨gb530, 0, none⟩ = some (.int .i64 a0_0) := (blk_cell BK530.out 0).trans rfl
                  have hcz24_1 : wr.cell? ⟨gb530, 1, none⟩ = some (.slice (some ad536) l0_1.length c0_1) := (blk_cell BK530.out 1).trans rfl
                  have hfz24_0 := blk_frozen BK530.out 0
                  have hfz24_1 := blk_frozen BK530.out 1
                  have p538 : 0 ≤ (x5_1 : Int) := of_decide_eq_true (by first | (with_reducible assumption) | assumption)
                  have q538 : x5_1 < (l0_1.length : Int) := of_decide_eq_true (by first | (with_reducible assumption) | assumption)
                  obtain ⟨ad538, e538, hx538_0⟩ := Kd.at_int HR0_1.out x5_1 p538 q538
                  obtain rfl : ad536 = ad538 := (by injection e538)
                  replace hx538_0 := (HB.out.cell (World.block_lt_of_cell? w _ hx538_0)).trans hx538_0
                  replace p538 := eq_true p538
                  replace q538 := eq_true q538
                  go_wp2_with (first | ((with_reducible refine gate_callee (f := 84) rfl ?_); refine goesL_ (some 25) rfl rfl Try.func84 (by kernel_rfl) rfl #[.int .i64 (rd l0_1 x5_1)] rfl (by (try simp only [List.map_toArray, List.map_cons, List.map_nil]); first | done | rfl | (simp only [List.length_drop, List.length_take]; rfl)) ?_; (with_reducible refine (spec_l01Bits.calls k1 (rd l0_1 x5_1) t539 _ A15.out).mono ?_); rintro e w' ⟨rfl, ⟨nd, rfl⟩⟩; refine ⟨_, rfl, ?_⟩; have hcz25_0 : wr.cell? ⟨gb535, 0, none⟩ = some (.int .i64 t531) := (blk_cell BK535.out 0).trans rfl; have hcz25_1 : wr.cell? ⟨gb535, 1, none⟩ = some (.slice Ao11 t532.length co11) := (blk_cell BK535.out 1).trans rfl; have hfz25_0 := blk_frozen BK535.out 0; have hfz25_1 := blk_frozen BK535.out 1; have p540 : 0 ≤ (x5_1 : Int) := of_decide_eq_true (by first | (with_reducible assumption) | assumption); have q540 : x5_1 < (t532.length : Int) := of_decide_eq_true (by first | (with_reducible assumption) | assumption); obtain ⟨ad540, e540, hx540_0⟩ := Kd.at_int (Kd.R_reads' HO_536001.out).2.2 x5_1 p540 q540; cases e540; replace p540 := eq_true p540; replace q540 := eq_true q540) | (go_at_call 84; (with_reducible refine (spec_l01Bits.calls k1 (rd t532 x5_1) t541 _ A18.out).mono ?_); rintro e w' ⟨rfl, ⟨nd, rfl⟩⟩))
                  go_ret
                  exact ⟨by first | rfl | (simp [errW_none, errW_some] <;> rfl) | (simp [*, errW_none, errW_some] <;> rfl), by repeat (first | (with_reducible first | exact HB.out | apply below_alloc | apply pw_below_drewN | apply below_drew1 | refine below_set ?_ GE530.out | refine below_set ?_ GE535.out) | exact HB.out)⟩
              · rw [if_neg c17] at H
                exact absurd H (by simp)
            · rw [if_neg c16] at H
              have c16b0 : (t539 == t537) = false := beq_eq_false_iff_ne.mpr c16
              have c16b1 : (t539 != t537) = true := bne_iff_ne.mpr c16
              obtain rfl := Option.some.inj H
              have hnb26 := NB530_535.out
              have hnc26 := NB535_530.out
              have hcz27_0 : wr.cell? ⟨gb530, 0, none⟩ = some (.int .i64 a0_0) := (blk_cell BK530.out 0).trans rfl
              have hcz27_1 : wr.cell? ⟨gb530, 1, none⟩ = some (.slice (some ad536) l0_1.length c0_1) := (blk_cell BK530.out 1).trans rfl
              have hfz27_0 := blk_frozen BK530.out 0
              have hfz27_1 := blk_frozen BK530.out 1
              have p538 : 0 ≤ (x5_1 : Int) := of_decide_eq_true (by first | (with_reducible assumption) | assumption)
              have q538 : x5_1 < (l0_1.length : Int) := of_decide_eq_true (by first | (with_reducible assumption) | assumption)
              obtain ⟨ad538, e538, hx538_0⟩ := Kd.at_int HR0_1.out x5_1 p538 q538
              obtain rfl : ad536 = ad538 := (by injection e538)
              replace hx538_0 := (HB.out.cell (World.block_lt_of_cell? w _ hx538_0)).trans hx538_0
              replace p538 := eq_true p538
              replace q538 := eq_true q538
              go_wp2_with (first | ((with_reducible refine gate_callee (f := 84) rfl ?_); refine goesL_ (some 25) rfl rfl Try.func84 (by kernel_rfl) rfl #[.int .i64 (rd l0_1 x5_1)] rfl (by (try simp only [List.map_toArray, List.map_cons, List.map_nil]); first | done | rfl | (simp only [List.length_drop, List.length_take]; rfl)) ?_; (with_reducible refine (spec_l01Bits.calls k1 (rd l0_1 x5_1) t539 _ A15.out).mono ?_); rintro e w' ⟨rfl, ⟨nd, rfl⟩⟩; refine ⟨_, rfl, ?_⟩))
              go_ret
              exact ⟨by first | rfl | (simp [errW_none, errW_some] <;> rfl) | (simp [*, errW_none, errW_some] <;> rfl), by repeat (first | (with_reducible first | exact HB.out | apply below_alloc | apply pw_below_drewN | apply below_drew1 | refine below_set ?_ GE530.out | refine below_set ?_ GE535.out) | exact HB.out)⟩
          · rw [if_neg c14] at H
            exact absurd H (by simp)
        · rw [if_neg c13] at H
          have c13b0 : decide (x5_1 < (l0_1.length : Int)) = false := decide_eq_false c13
          clear c13
          obtain rfl := Option.some.inj H
          have hnb28 := NB530_535.out
          have hnc28 := NB535_530.out
          have hcz29_0 : wr.cell? ⟨gb530, 0, none⟩ = some (.int .i64 a0_0) := (blk_cell BK530.out 0).trans rfl
          have hcz29_1 : wr.cell? ⟨gb530, 1, none⟩ = some (.slice (some ad536) l0_1.length c0_1) := (blk_cell BK530.out 1).trans rfl
          have hfz29_0 := blk_frozen BK530.out 0
          have hfz29_1 := blk_frozen BK530.out 1
          go_wp2
          go_ret
          exact ⟨by first | rfl | (simp [errW_none, errW_some] <;> rfl) | (simp [*, errW_none, errW_some] <;> rfl), by repeat (first | (with_reducible first | exact HB.out | apply below_alloc | apply pw_below_drewN | apply below_drew1 | refine below_set ?_ GE530.out | refine below_set ?_ GE535.out) | exact HB.out)⟩
  · rw [if_neg c3] at H
    exact absurd H (by simp)

end Go.Proofs.Ytanhfejpdhneiaa.P
