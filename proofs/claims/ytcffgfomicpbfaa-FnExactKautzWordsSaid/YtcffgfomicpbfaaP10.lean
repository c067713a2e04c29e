-- Printed by a program of this workplace (wip/xp/xp.py) over the kit's print.
import Derived.Test.YtcffgfomicpbfaaP0
import Derived.Test.YtcffgfomicpbfaaP9
namespace Go.Proofs.Ytcffgfomicpbfaa.P
open Go.RowKit Go.Proofs.YtcffgfomicpbfaaW.PrintWords Go.Proofs.YtcffgfomicpbfaaW.PrintLast Go.Proofs.YtcffgfomicpbfaaW.PrintMore
attribute [local go_sem] max2_int min2_int max_two min_two max_three min_three max_four min_four   -- for this text's walks alone
set_option linter.unusedVariables false
set_option linter.unusedSimpArgs false

/-! ### impl_kautzWords: function 47 -/
mutual
def impl_kautzWords.l0 : Nat → Int → List (List Int) → Int → Int → Option ((List (List Int)))
  | 0, _, _, _, _ => none
  | k + 1, x0, x5, x12, x13 => if x13 < x12 then (impl_kautzWords.l1 k x0 (([] : List (List Int))) x12 x13 x5 (x5.length : Int) 0) else (some x5)
def impl_kautzWords.l1 : Nat → Int → List (List Int) → Int → Int → List (List Int) → Int → Int → Option ((List (List Int)))
  | 0, _, _, _, _, _, _, _ => none
  | k + 1, x0, x6, x12, x13, x16, x17, x18 => if x18 < x17 then (if 0 ≤ x18 then (if x18 < (x16.length : Int) then (impl_kautzWords.l2 k x0 x6 (rd_L1 x16 x18) x12 x13 x16 x17 x18 (wrap64 (x0 + 1)) 0) else (none)) else (none)) else (impl_kautzWords.l0 k x0 x6 x12 (wrap64 (x13 + 1)))
def impl_kautzWords.l2 : Nat → Int → List (List Int) → List Int → Int → Int → List (List Int) → Int → Int → Int → Int → Option ((List (List Int)))
  | 0, _, _, _, _, _, _, _, _, _, _ => none
  | k + 1, x0, x6, x8, x12, x13, x16, x17, x18, x23, x24 => if x24 < x23 then (if (x8.length : Int) = 0 then ((slices_Clone_int64_int64.f x8).bind fun t362 => (if t362.length < 17592186044416 then (if x6.length < 5864062014805 then (impl_kautzWords.l2 k x0 (x6 ++ [(t362 ++ [x24])]) x8 x12 x13 x16 x17 x18 x23 (wrap64 (x24 + 1))) else (none)) else (none))) else (if 0 ≤ (wrap64 ((x8.length : Int) - 1)) then (if (wrap64 ((x8.length : Int) - 1)) < (x8.length : Int) then (if (rd x8 (wrap64 ((x8.length : Int) - 1))) = x24 then (impl_kautzWords.l2 k x0 x6 x8 x12 x13 x16 x17 x18 x23 (wrap64 (x24 + 1))) else ((slices_Clone_int64_int64.f x8).bind fun t372 => (if t372.length < 17592186044416 then (if x6.length < 5864062014805 then (impl_kautzWords.l2 k x0 (x6 ++ [(t372 ++ [x24])]) x8 x12 x13 x16 x17 x18 x23 (wrap64 (x24 + 1))) else (none)) else (none)))) else (none)) else (none))) else (impl_kautzWords.l1 k x0 x6 x12 x13 x16 x17 (wrap64 (x18 + 1)))
end
def impl_kautzWords.f (k : Nat) (a0 : Int) (a1 : Int) : Option ((List (List Int))) := impl_kautzWords.l0 k a0 (([(([] : List Int))] : List (List Int))) a1 0
set_option maxHeartbeats 8000000 in
set_option maxRecDepth 100000 in
theorem impl_kautzWords.calls (k : Nat) (a0 : Int) (a1 : Int) (r : List (List Int)) (w : World) (h : impl_kautzWords.f k a0 a1 = some r) :
    Calls Try.prog 47 #[.int .i64 a0, .int .i64 a1] w fun e w' => ∃ v0_ : Value, e = .returned (v0_) ∧ Kd.S (Kd.slice 2 (Kd.int .i64)) 22 w' w.heap.size (fun _ => True) v0_ r ∧ Below w.heap.size w w' := by
  have HB := Aside0.mk (Below.refl w.heap.size w)
  have H' := Aside0.mk (show impl_kautzWords.l0 k a0 (([(([] : List Int))] : List (List Int))) a1 0 = some r from h)
  clear h
  go_enter Try.func47, Try.ntmps47
  go_wp2_with (first | ((with_reducible refine gate_dst (N := 10) rfl ?_); refine Kd.R_lit (Kd.int .i64) _ 2 ?hg (N := 10) ?hd (xs := ([] : List Int)) (inner := []) (ok := fun _ => True) (okp := fun _ => True) ?hr ?hp (fun _ hk => hk) trivial (Below.refl _ _) (Nat.le_refl _) (by simp) ?_; (case hd => rfl); (case hg => rfl); (case hr => first | (go_simp; done) | (go_simp; rfl)); (case hp => exact (Reps.none _ _)); intro v237 w3 ho4 hb hg_ hnew_; clear hg_ hnew_; have n0_ := Aside0.mk (Kd.R_lower (Kd.R_tight rfl ho4) (below_size HB.out)); have n1_ := Aside0.mk (below_step HB.out hb); clear HB; have HO1 := n0_; have HB := n1_; clear n0_ n1_ hb ho4; obtain ⟨Ao5, co5, eo5⟩ := Kd.R_slice HO1.out; subst eo5) | ((with_reducible refine gate_dst (N := 11) rfl ?_); refine Kd.S_lits (Kd.slice 2 (Kd.int .i64)) (w0 := w) w.heap.size 22 ?hg (N := 11) ?hd (xs := ([[]] : List (List Int))) (inner := [.slice Ao5 ([] : List Int).length co5]) (ok := fun _ => True) (fun j k_ => j = 0 ∧ some k_ = (.slice Ao5 ([] : List Int).length co5 : Value).ownBlock) ?hr ?hl ?hp ?hap (fun _ _ _ => trivial) trivial HB.out (below_size HB.out) (by simp) ?_; (case hd => rfl); (case hg => rfl); (case hr => first | (go_simp; done) | (go_simp; rfl)); (case hl => rfl); (case hap => intro i j k_ h1 h2; exact h1.1.trans h2.1.symm); (case hp => intro j x hj; cases j with | zero => (obtain rfl := Option.some.inj hj; exact ⟨_, rfl, Kd.R_mono HO1.out (fun k_ hk => ⟨rfl, hk⟩)⟩) | succ j => cases hj); intro v238 w4 ho5 hb hg_ hnew_; clear hg_ hnew_ HB HO1; have HB := Aside0.mk hb; have HO := Aside0.mk ho5; clear hb ho5))
  go_loopg [5, 13] k (fun kq v5 v13 w' => ∃ (x5_1 : List (List Int)) (x13_1 : Int), v13 = .int .i64 x13_1 ∧ Aside0 (impl_kautzWords.l0 kq a0 x5_1 a1 x13_1 = some r) ∧ Aside0 (kq ≤ k) ∧ Aside0 (Kd.S (Kd.slice 2 (Kd.int .i64)) 22 w' w.heap.size (fun _ => True) v5 x5_1) ∧ Aside0 (Below w.heap.size w w'))
  case atStart => exact ⟨_, 0, (by first | rfl | (simp; done) | (simp [*]; done)), H', ⟨Nat.le_refl _⟩, HO, HB⟩
  case round =>
    clear H' HO HB
    obtain ⟨x5_1, x13_1, rfl, HA, HK1, HO_5, HBo⟩ := hrel
    obtain ⟨wo, rfl⟩ : ∃ wo, wo = wr := ⟨_, rfl⟩
    obtain ⟨Ao, co, rfl⟩ := Kd.S_slice HO_5.out
    cases gk with
    | zero => exact absurd HA.out (by simp [impl_kautzWords.l0])
    | succ k1 =>
      have H := HA.out
      clear HA
      simp only [impl_kautzWords.l0] at H
      by_cases c8 : x13_1 < a1
      · rw [if_pos c8] at H
        have c8b0 : decide (x13_1 < a1) = true := decide_eq_true c8
        clear c8
        have H' := Aside0.mk H
        clear H
        have HX := Aside0.mk (Kd.S_reads' HO_5.out).2.2
        have HXl := Aside0.mk (Kd.S_reads' HO_5.out).2.1
        go_wp2_with ((with_reducible refine gate_dst (N := 15) rfl ?_); refine Kd.S_lit (Kd.slice 2 (Kd.int .i64)) _ 22 ?hg (N := 15) ?hd (xs := ([] : List (List Int))) (inner := []) (ok := fun _ => True) (okp := fun _ => True) ?hr ?hp (fun _ hk => hk) trivial (Below.refl _ _) (Nat.le_refl _) (by simp) ?_; (case hd => rfl); (case hg => rfl); (case hr => first | (go_simp; done) | (go_simp; rfl)); (case hp => exact (Reps.none _ _)); intro v243 w9 ho10 hb hg_ hnew_; clear hg_ hnew_; have HO := Aside0.mk ho10; have HB := Aside0.mk hb; clear ho10 hb)
        go_loopg [6, 18] k1 (fun kq v6 v18 w' => ∃ (x6_2 : List (List Int)) (x18_2 : Int), v18 = .int .i64 x18_2 ∧ Aside0 (impl_kautzWords.l1 kq a0 x6_2 a1 x13_1 x5_1 (x5_1.length : Int) x18_2 = some r) ∧ Aside0 (kq ≤ k1) ∧ Aside0 (Kd.S (Kd.slice 2 (Kd.int .i64)) 22 w' wo.heap.size (fun _ => True) v6 x6_2) ∧ Aside0 (Below wo.heap.size wo w'))
        case atStart => exact ⟨_, 0, (by first | rfl | (simp; done) | (simp [*]; done)), H', ⟨Nat.le_refl _⟩, HO, HB⟩
        case round =>
          clear H' HO HB c8b0
          obtain ⟨x6_2, x18_2, rfl, HA, HK2, HO_6, HB⟩ := hrel
          cases gk with
          | zero => exact absurd HA.out (by simp [impl_kautzWords.l1])
          | succ k2 =>
            have H := HA.out
            clear HA
            simp only [impl_kautzWords.l1] at H
            by_cases c12 : x18_2 < (x5_1.length : Int)
            · rw [if_pos c12] at H
              have c12b0 : decide (x18_2 < (x5_1.length : Int)) = true := decide_eq_true c12
              by_cases c13 : 0 ≤ x18_2
              · rw [if_pos c13, if_pos c12] at H
                have H' := Aside0.mk H
                clear H
                obtain ⟨ad, A8, c8, e8, hx, hl, hi⟩ := at_L1 HX.out x18_2 c13 c12
                cases e8
                have hx' := (HB.out.cell (World.block_lt_of_cell? wo _ hx)).trans hx
                have HT := Aside0.mk hi
                have HTl := Aside0.mk hl
                clear hi hl hx
                replace c12 := eq_true c12
                replace c13 := eq_true c13
                go_wp2
                go_loopg [6, 24] k2 (fun kq v6 v24 w' => ∃ (x6_3 : List (List Int)) (x24_3 : Int), v24 = .int .i64 x24_3 ∧ Aside0 (impl_kautzWords.l2 kq a0 x6_3 (rd_L1 x5_1 x18_2) a1 x13_1 x5_1 (x5_1.length : Int) x18_2 (wrap64 (a0 + 1)) x24_3 = some r) ∧ Aside0 (kq ≤ k2) ∧ Aside0 (Kd.S (Kd.slice 2 (Kd.int .i64)) 22 w' wo.heap.size (fun _ => True) v6 x6_3) ∧ Aside0 (Below wo.heap.size wo w'))
                case atStart => exact ⟨_, 0, (by first | rfl | (simp; done) | (simp [*]; done)), H', ⟨Nat.le_refl _⟩, HO_6, HB⟩
                case round =>
                  clear H' HO_6 HB c12 c13 c12b0 hx'
                  obtain ⟨x6_3, x24_3, rfl, HA, HK3, HO_6, HB⟩ := hrel
                  obtain ⟨wi, rfl⟩ : ∃ wi, wi = wr := ⟨_, rfl⟩
                  cases gk with
                  | zero => exact absurd HA.out (by simp [impl_kautzWords.l2])
                  | succ k3 =>
                    have H := HA.out
                    clear HA
                    simp only [impl_kautzWords.l2] at H
                    by_cases c15 : x24_3 < (wrap64 (a0 + 1))
                    · rw [if_pos c15] at H
                      have c15b0 : decide (x24_3 < (wrap64 (a0 + 1))) = true := decide_eq_true c15
                      clear c15
                      by_cases c16 : ((rd_L1 x5_1 x18_2).length : Int) = 0
                      · rw [if_pos c16] at H
                        have c16b0 : (((rd_L1 x5_1 x18_2).length : Int) == 0) = true := beq_iff_eq.mpr c16
                        have c16b1 : (((rd_L1 x5_1 x18_2).length : Int) != 0) = false := bne_eq_false_iff_eq.mpr c16
                        clear c16
                        obtain ⟨tc, A17, H⟩ := Option.bind_eq_some_iff.mp H
                        by_cases c18 : tc.length < 17592186044416
                        case neg => rw [if_neg c18] at H; cases H
                        case pos =>
                        rw [if_pos c18] at H
                        by_cases c19 : x6_3.length < 5864062014805
                        case neg => rw [if_neg c19] at H; cases H
                        case pos =>
                        rw [if_pos c19] at H
                        obtain ⟨y1, hy1⟩ : ∃ y_ : List Int, y_ = tc ++ [x24_3] := ⟨_, rfl⟩
                        rw [← hy1] at H
                        have Ny := Aside0.mk hy1
                        clear hy1
                        have H' := Aside0.mk H
                        have HAc := Aside0.mk A17
                        have LM1 := Aside0.mk c18
                        have LM2 := Aside0.mk c19
                        clear H A17 c18 c19
                        go_wp2_with (first | ((with_reducible refine gate_callee (f := 74) rfl ?_); refine goesL_ (some 42) rfl rfl Try.func74 (by kernel_rfl) rfl #[.slice A8 (rd_L1 x5_1 x18_2).length c8] rfl (by (try simp only [List.map_toArray, List.map_cons, List.map_nil]); first | done | rfl | (simp only [List.length_drop, List.length_take]; rfl)) ?_; (with_reducible refine (slices_Clone_int64_int64.calls _ _ (rd_L1 x5_1 x18_2) tc _ ?side1 ?side2 HAc.out).mono ?_); (case side1 => exact Kd.C_below HT.out HB.out); (case side2 => exact HTl.out); rintro e w20 ⟨v190, rfl, ho0, hb⟩; refine ⟨_, rfl, ?_⟩; have n0_ := Aside0.mk (Kd.S_mono (ok' := fun k_ => k_ < wi.heap.size) (Kd.S_below (Kd.S_bound HO_6.out) hb) (fun k_ hk => hk.2.2.1)); have n1_ := Aside0.mk (Kd.R_lower ho0 (below_size HB.out)); have n2_ := Aside0.mk (Kd.R_base ho0); have n3_ := Aside0.mk (below_step HB.out hb); have n4_ := Aside0.mk hb.size; clear HO_6 HB; have HS1 := n0_; have HC1 := n1_; have HC1B := n2_; have HB := n3_; have HSZ := n4_; clear n0_ n1_ n2_ n3_ n4_ hb ho0) | ((with_reducible refine gate_builtin (b := .append) (xs := #[.tmp 42, .tmp 44]) rfl ?_); at_builtin; refine Kd.R_append (Kd.int .i64) (w0 := wo) wo.heap.size rfl (.tmp 42) (.tmp 44) 22 2 (.int .i64 0) 8 rfl Try.underlying22 info2 rfl (by decide) (by omega) v190 tc x24_3 [.int .i64 x24_3] (fun _ => True) (fun _ => False) rfl rfl ?aP (fun _ hk => hk.elim) ?aF ?aO ?aB ?aS ?aL ?_; (case aP => exact rfl); (case aB => exact (by repeat (first | (with_reducible first | exact HB.out | apply below_alloc | apply pw_below_drewN | apply below_drew1) | exact HB.out))); (case aF => exact (fun _ _ => trivial)); (case aO => exact Kd.R_mono HC1.out (fun _ _ => trivial)); (case aS => exact (below_size (by repeat (first | (with_reducible first | exact HB.out | apply below_alloc | apply pw_below_drewN | apply below_drew1) | exact HB.out)))); (case aL => have := LM1.out; omega); intro v193 w21 ho hb hg hat; rw [← Ny.out] at ho; have n0_ := Aside0.mk (Kd.S_grown HS1.out hg (fun k_ hk e_ => by have := HC1B.out k_ e_.symm; omega)); have n1_ := Aside0.mk (Kd.R_tight rfl ho); have n2_ := Aside0.mk (show ∀ k_, v193.ownBlock = some k_ → wi.heap.size ≤ k_ from fun k_ e_ => hat.elim (fun h_ => HC1B.out k_ (h_.symm.trans e_)) (fun h_ => by obtain ⟨b_, hb1, hb2⟩ := h_; have := Option.some.inj (hb1.symm.trans e_); have := HSZ.out; omega)); have n3_ := Aside0.mk hb; clear HS1 HC1 HC1B HB; have HS1 := n0_; have HE := n1_; have HEB := n2_; have HB := n3_; clear n0_ n1_ n2_ n3_ ho hb hg hat; obtain ⟨Ao23, co23, eo23⟩ := Kd.R_slice HE.out; subst eo23) | ((with_reducible refine gate_builtin (b := .append) (xs := #[.tmp 40, .tmp 46]) rfl ?_); at_builtin; refine Kd.S_append (Kd.slice 2 (Kd.int .i64)) (w0 := wo) wo.heap.size rfl (.tmp 40) (.tmp 46) 28 22 (.slice none 0 0) 24 rfl Try.underlying28 info22 rfl (by decide) (by omega) u6 x6_3 y1 [.slice Ao23 y1.length co23] (fun _ => True) (fun k_ => some k_ = (.slice Ao23 y1.length co23 : Value).ownBlock) rfl rfl ?aP (fun k_ hk => ⟨trivial, fun e_ => by have h1 := (Kd.S_R HS1.out).1 k_ e_.symm; have h2 := HEB.out k_ hk.symm; omega⟩) ?aF ?aO ?aB ?aS ?aL ?_; (case aP => exact Kd.M_row HE.out); (case aB => exact (by repeat (first | (with_reducible first | exact HB.out | apply below_alloc | apply pw_below_drewN | apply below_drew1) | exact HB.out))); (case aF => exact (fun _ _ => trivial)); (case aO => exact Kd.S_mono HS1.out (fun k_ hk => ⟨trivial, fun e_ => by have := HEB.out k_ e_.symm; omega⟩)); (case aS => exact (below_size (by repeat (first | (with_reducible first | exact HB.out | apply below_alloc | apply pw_below_drewN | apply below_drew1) | exact HB.out)))); (case aL => have := LM2.out; omega); intro v195 w22 ho hb hg hat; have n0_ := Aside0.mk ho; have n1_ := Aside0.mk hb; clear HS1 HE HEB HB; have HO_6 := n0_; have HB := n1_; clear n0_ n1_ ho hb hg hat))
                        go_roundg k3
                        case measure => have := HK3.out; omega
                        case rel => exact ⟨_, (wrap64 (x24_3 + 1)), (by first | rfl | (simp; done) | (simp [*]; done)), H', ⟨by have := HK3.out; omega⟩, HO_6, HB⟩
                      · rw [if_neg c16] at H
                        have c16b0 : (((rd_L1 x5_1 x18_2).length : Int) == 0) = false := beq_eq_false_iff_ne.mpr c16
                        have c16b1 : (((rd_L1 x5_1 x18_2).length : Int) != 0) = true := bne_iff_ne.mpr c16
                        have c16b2 : ¬ ((rd_L1 x5_1 x18_2) = []) := fun h_ => c16 (by rw [h_]; rfl)
                        obtain ⟨ji, hji⟩ : ∃ j_ : Int, (wrap64 (((rd_L1 x5_1 x18_2).length : Int) - 1)) = j_ := ⟨_, rfl⟩
                        rw [hji] at H
                        have hjiw : (IntKind.i64.wrap (((rd_L1 x5_1 x18_2).length : Int) - 1)) = ji := (i64_w _).trans hji
                        clear c16
                        by_cases c25 : 0 ≤ ji
                        case neg => rw [if_neg c25] at H; cases H
                        case pos =>
                        rw [if_pos c25] at H
                        by_cases c26 : ji < ((rd_L1 x5_1 x18_2).length : Int)
                        case neg => rw [if_neg c26] at H; cases H
                        case pos =>
                        rw [if_pos c26] at H
                        obtain ⟨ad2, e2, hx2⟩ := Kd.at_int (Kd.C_below HT.out HB.out) ji c25 c26
                        cases e2
                        have c25b0 : decide (0 ≤ ji) = true := decide_eq_true c25
                        have c26b0 : decide (ji < ((rd_L1 x5_1 x18_2).length : Int)) = true := decide_eq_true c26
                        replace c25 := eq_true c25
                        replace c26 := eq_true c26
                        by_cases c27 : rd (rd_L1 x5_1 x18_2) ji = x24_3
                        · rw [if_pos c27] at H
                          have c27b0 : ((rd (rd_L1 x5_1 x18_2) ji) == x24_3) = true := beq_iff_eq.mpr c27
                          have c27b1 : ((rd (rd_L1 x5_1 x18_2) ji) != x24_3) = false := bne_eq_false_iff_eq.mpr c27
                          clear c27
                          have H' := Aside0.mk H
                          clear H
                          go_wp2
                          go_roundg k3
                          case measure => have := HK3.out; omega
                          case rel => exact ⟨_, (wrap64 (x24_3 + 1)), (by first | rfl | (simp; done) | (simp [*]; done)), H', ⟨by have := HK3.out; omega⟩, HO_6, HB⟩
                        · rw [if_neg c27] at H
                          have c27b0 : ((rd (rd_L1 x5_1 x18_2) ji) == x24_3) = false := beq_eq_false_iff_ne.mpr c27
                          have c27b1 : ((rd (rd_L1 x5_1 x18_2) ji) != x24_3) = true := bne_iff_ne.mpr c27
                          clear c27
                          obtain ⟨tc, A17, H⟩ := Option.bind_eq_some_iff.mp H
                          by_cases c18 : tc.length < 17592186044416
                          case neg => rw [if_neg c18] at H; cases H
                          case pos =>
                          rw [if_pos c18] at H
                          by_cases c19 : x6_3.length < 5864062014805
                          case neg => rw [if_neg c19] at H; cases H
                          case pos =>
                          rw [if_pos c19] at H
                          obtain ⟨y1, hy1⟩ : ∃ y_ : List Int, y_ = tc ++ [x24_3] := ⟨_, rfl⟩
                          rw [← hy1] at H
                          have Ny := Aside0.mk hy1
                          clear hy1
                          have H' := Aside0.mk H
                          have HAc := Aside0.mk A17
                          have LM1 := Aside0.mk c18
                          have LM2 := Aside0.mk c19
                          clear H A17 c18 c19
                          go_wp2_with (first | ((with_reducible refine gate_callee (f := 74) rfl ?_); refine goesL_ (some 42) rfl rfl Try.func74 (by kernel_rfl) rfl #[.slice (some ad2) (rd_L1 x5_1 x18_2).length c8] rfl (by (try simp only [List.map_toArray, List.map_cons, List.map_nil]); first | done | rfl | (simp only [List.length_drop, List.length_take]; rfl)) ?_; (with_reducible refine (slices_Clone_int64_int64.calls _ _ (rd_L1 x5_1 x18_2) tc _ ?side1 ?side2 HAc.out).mono ?_); (case side1 => exact Kd.C_below HT.out HB.out); (case side2 => exact HTl.out); rintro e w20 ⟨v190, rfl, ho0, hb⟩; refine ⟨_, rfl, ?_⟩; have n0_ := Aside0.mk (Kd.S_mono (ok' := fun k_ => k_ < wi.heap.size) (Kd.S_below (Kd.S_bound HO_6.out) hb) (fun k_ hk => hk.2.2.1)); have n1_ := Aside0.mk (Kd.R_lower ho0 (below_size HB.out)); have n2_ := Aside0.mk (Kd.R_base ho0); have n3_ := Aside0.mk (below_step HB.out hb); have n4_ := Aside0.mk hb.size; clear HO_6 HB; have HS1 := n0_; have HC1 := n1_; have HC1B := n2_; have HB := n3_; have HSZ := n4_; clear n0_ n1_ n2_ n3_ n4_ hb ho0) | ((with_reducible refine gate_builtin (b := .append) (xs := #[.tmp 42, .tmp 44]) rfl ?_); at_builtin; refine Kd.R_append (Kd.int .i64) (w0 := wo) wo.heap.size rfl (.tmp 42) (.tmp 44) 22 2 (.int .i64 0) 8 rfl Try.underlying22 info2 rfl (by decide) (by omega) v190 tc x24_3 [.int .i64 x24_3] (fun _ => True) (fun _ => False) rfl rfl ?aP (fun _ hk => hk.elim) ?aF ?aO ?aB ?aS ?aL ?_; (case aP => exact rfl); (case aB => exact (by repeat (first | (with_reducible first | exact HB.out | apply below_alloc | apply pw_below_drewN | apply below_drew1) | exact HB.out))); (case aF => exact (fun _ _ => trivial)); (case aO => exact Kd.R_mono HC1.out (fun _ _ => trivial)); (case aS => exact (below_size (by repeat (first | (with_reducible first | exact HB.out | apply below_alloc | apply pw_below_drewN | apply below_drew1) | exact HB.out)))); (case aL => have := LM1.out; omega); intro v193 w21 ho hb hg hat; rw [← Ny.out] at ho; have n0_ := Aside0.mk (Kd.S_grown HS1.out hg (fun k_ hk e_ => by have := HC1B.out k_ e_.symm; omega)); have n1_ := Aside0.mk (Kd.R_tight rfl ho); have n2_ := Aside0.mk (show ∀ k_, v193.ownBlock = some k_ → wi.heap.size ≤ k_ from fun k_ e_ => hat.elim (fun h_ => HC1B.out k_ (h_.symm.trans e_)) (fun h_ => by obtain ⟨b_, hb1, hb2⟩ := h_; have := Option.some.inj (hb1.symm.trans e_); have := HSZ.out; omega)); have n3_ := Aside0.mk hb; clear HS1 HC1 HC1B HB; have HS1 := n0_; have HE := n1_; have HEB := n2_; have HB := n3_; clear n0_ n1_ n2_ n3_ ho hb hg hat; obtain ⟨Ao23, co23, eo23⟩ := Kd.R_slice HE.out; subst eo23) | ((with_reducible refine gate_builtin (b := .append) (xs := #[.tmp 40, .tmp 46]) rfl ?_); at_builtin; refine Kd.S_append (Kd.slice 2 (Kd.int .i64)) (w0 := wo) wo.heap.size rfl (.tmp 40) (.tmp 46) 28 22 (.slice none 0 0) 24 rfl Try.underlying28 info22 rfl (by decide) (by omega) u6 x6_3 y1 [.slice Ao23 y1.length co23] (fun _ => True) (fun k_ => some k_ = (.slice Ao23 y1.length co23 : Value).ownBlock) rfl rfl ?aP (fun k_ hk => ⟨trivial, fun e_ => by have h1 := (Kd.S_R HS1.out).1 k_ e_.symm; have h2 := HEB.out k_ hk.symm; omega⟩) ?aF ?aO ?aB ?aS ?aL ?_; (case aP => exact Kd.M_row HE.out); (case aB => exact (by repeat (first | (with_reducible first | exact HB.out | apply below_alloc | apply pw_below_drewN | apply below_drew1) | exact HB.out))); (case aF => exact (fun _ _ => trivial)); (case aO => exact Kd.S_mono HS1.out (fun k_ hk => ⟨trivial, fun e_ => by have := HEB.out k_ e_.symm; omega⟩)); (case aS => exact (below_size (by repeat (first | (with_reducible first | exact HB.out | apply below_alloc | apply pw_below_drewN | apply below_drew1) | exact HB.out)))); (case aL => have := LM2.out; omega); intro v195 w22 ho hb hg hat; have n0_ := Aside0.mk ho; have n1_ := Aside0.mk hb; clear HS1 HE HEB HB; have HO_6 := n0_; have HB := n1_; clear n0_ n1_ ho hb hg hat))
                          go_roundg k3
                          case measure => have := HK3.out; omega
                          case rel => exact ⟨_, (wrap64 (x24_3 + 1)), (by first | rfl | (simp; done) | (simp [*]; done)), H', ⟨by have := HK3.out; omega⟩, HO_6, HB⟩
                    · rw [if_neg c15] at H
                      have c15b0 : decide (x24_3 < (wrap64 (a0 + 1))) = false := decide_eq_false c15
                      clear c15
                      have H' := Aside0.mk H
                      clear H
                      go_wp2
                      go_roundg k3
                      case measure => have := HK3.out; omega
                      case rel => exact ⟨_, (wrap64 (x18_2 + 1)), (by first | rfl | (simp; done) | (simp [*]; done)), H', ⟨by have := HK3.out; have := HK2.out; omega⟩, HO_6, HB⟩
              · rw [if_neg c13] at H
                cases H
            · rw [if_neg c12] at H
              have c12b0 : decide (x18_2 < (x5_1.length : Int)) = false := decide_eq_false c12
              clear c12
              have H' := Aside0.mk H
              clear H
              go_wp2
              go_roundg k2
              case measure => have := HK2.out; omega
              case rel => exact ⟨_, (wrap64 (x13_1 + 1)), (by first | rfl | (simp; done) | (simp [*]; done)), H', ⟨by have := HK1.out; have := HK2.out; omega⟩, ⟨Kd.S_lower HO_6.out (below_size HBo.out)⟩, ⟨below_then HBo.out (below_size HBo.out) HB.out⟩⟩
      · rw [if_neg c8] at H
        have c8b0 : decide (x13_1 < a1) = false := decide_eq_false c8
        clear c8
        obtain rfl := Option.some.inj H
        go_wp2
        go_ret
        exact ⟨_, rfl, HO_5.out, HBo.out⟩

end Go.Proofs.Ytcffgfomicpbfaa.P
