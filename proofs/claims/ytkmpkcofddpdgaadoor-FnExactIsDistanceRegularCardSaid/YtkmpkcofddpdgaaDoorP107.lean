-- Printed by a program of this workplace (wip/xp/xp.py) over the kit's print.
import Derived.Test.YtkmpkcofddpdgaaDoorP0
import Derived.Test.YtkmpkcofddpdgaaDoorP5
import Derived.Test.YtkmpkcofddpdgaaDoorP55
import Derived.Test.YtkmpkcofddpdgaaDoorP72
namespace Go.Proofs.YtkmpkcofddpdgaaDoor.P
open Go.RowKit Go.Proofs.YtkmpkcofddpdgaaDoorW.PrintWords Go.Proofs.YtkmpkcofddpdgaaDoorW.PrintLast Go.Proofs.YtkmpkcofddpdgaaDoorW.PrintMore
attribute [local go_sem] max2_int min2_int max_two min_two max_three min_three max_four min_four   -- for this text's walks alone
set_option linter.unusedVariables false
set_option linter.unusedSimpArgs false

/-! ### spec_l06Arrays: function 78 -/
mutual
def spec_l06Arrays.l0 : Nat → List (List Int) → Int → List Int → List Int → Int → Int → Int → List Int → Option (List Int × List Int × Bool)
  | 0, _, _, _, _, _, _, _, _ => none
  | k + 1, x5, x6, x8, x9, x31, x32, x841000, x841001 => if x32 < x31 then (if 0 ≤ x32 then (if x32 < (x8.length : Int) then (if x32 < (x9.length : Int) then (spec_l06Arrays.l0 k x5 x6 (x8.set (x32 : Int).toNat (-1)) (x9.set (x32 : Int).toNat (-1)) x31 (wrap64 (x32 + 1)) x841000 x841001) else (none)) else (none)) else (none)) else (spec_l06Arrays.l1 k x5 x6 x8 x9 0 x841000 x841001)
def spec_l06Arrays.l1 : Nat → List (List Int) → Int → List Int → List Int → Int → Int → List Int → Option (List Int × List Int × Bool)
  | 0, _, _, _, _, _, _, _ => none
  | k + 1, x5, x6, x8, x9, x11, x841000, x841001 => if x11 < x841000 then (spec_l06Arrays.l2 k x5 x6 x8 x9 x11 0 x841000 x841001) else (if 0 ≤ x6 then (if x6 ≤ (x8.length : Int) then ((spec_l01Own.f (x8.take (x6 : Int).toNat)).bind fun t858 => (if 1 ≤ (x9.length : Int) then ((spec_l01Own.f (x9.drop 1)).bind fun t865 => (some (t858, t865, true))) else (none))) else (none)) else (none))
def spec_l06Arrays.l2 : Nat → List (List Int) → Int → List Int → List Int → Int → Int → Int → List Int → Option (List Int × List Int × Bool)
  | 0, _, _, _, _, _, _, _, _ => none
  | k + 1, x5, x6, x8, x9, x11, x12, x841000, x841001 => if x12 < x841000 then (if 0 ≤ x11 then (if x11 < (x5.length : Int) then (if 0 ≤ x12 then (if x12 < ((rd_L1 x5 x11).length : Int) then (spec_l06Arrays.l3 k x5 x6 x8 x9 x11 x12 (rd (rd_L1 x5 x11) x12) 0 0 0 x841000 x841001) else (none)) else (none)) else (none)) else (none)) else (spec_l06Arrays.l1 k x5 x6 x8 x9 (wrap64 (x11 + 1)) x841000 x841001)
def spec_l06Arrays.l3 : Nat → List (List Int) → Int → List Int → List Int → Int → Int → Int → Int → Int → Int → Int → List Int → Option (List Int × List Int × Bool)
  | 0, _, _, _, _, _, _, _, _, _, _, _, _ => none
  | k + 1, x5, x6, x8, x9, x11, x12, x13, x14, x15, x16, x841000, x841001 => if x16 < x841000 then (if 0 ≤ x12 then (if x12 < (x841001.length : Int) then (if 0 ≤ (IntKind.u64.wrap (x16)) then (if (Go.bits .and .i64 (shr .i64 (rd x841001 x12) (IntKind.u64.wrap (x16))) 1) = 0 then (spec_l06Arrays.l3 k x5 x6 x8 x9 x11 x12 x13 x14 x15 (wrap64 (x16 + 1)) x841000 x841001) else (if 0 ≤ x11 then (if x11 < (x5.length : Int) then (if 0 ≤ x16 then (if x16 < ((rd_L1 x5 x11).length : Int) then (if (rd (rd_L1 x5 x11) x16) = (wrap64 (x13 + 1)) then (if (rd (rd_L1 x5 x11) x16) = (wrap64 (x13 - 1)) then (spec_l06Arrays.l3 k x5 x6 x8 x9 x11 x12 x13 (wrap64 (x14 + 1)) (wrap64 (x15 + 1)) (wrap64 (x16 + 1)) x841000 x841001) else (spec_l06Arrays.l3 k x5 x6 x8 x9 x11 x12 x13 (wrap64 (x14 + 1)) x15 (wrap64 (x16 + 1)) x841000 x841001)) else (if (rd (rd_L1 x5 x11) x16) = (wrap64 (x13 - 1)) then (spec_l06Arrays.l3 k x5 x6 x8 x9 x11 x12 x13 x14 (wrap64 (x15 + 1)) (wrap64 (x16 + 1)) x841000 x841001) else (spec_l06Arrays.l3 k x5 x6 x8 x9 x11 x12 x13 x14 x15 (wrap64 (x16 + 1)) x841000 x841001))) else (none)) else (none)) else (none)) else (none))) else (none)) else (none)) else (none)) else (if 0 ≤ x13 then (if x13 < (x8.length : Int) then (if (rd x8 x13) ≥ 0 then (if (rd x8 x13) = x14 then (if x13 < (x9.length : Int) then (if (rd x9 x13) = x15 then (spec_l06Arrays.l2 k x5 x6 (x8.set (x13 : Int).toNat x14) (x9.set (x13 : Int).toNat x15) x11 (wrap64 (x12 + 1)) x841000 x841001) else (some (([] : List Int), ([] : List Int), false))) else (none)) else (some (([] : List Int), ([] : List Int), false))) else (if x13 < (x9.length : Int) then (spec_l06Arrays.l2 k x5 x6 (x8.set (x13 : Int).toNat x14) (x9.set (x13 : Int).toNat x15) x11 (wrap64 (x12 + 1)) x841000 x841001) else (none))) else (none)) else (none))
end
def spec_l06Arrays.f (k : Nat) (a0_0 : Int) (l0_1 : List Int) : Option (List Int × List Int × Bool) := (spec_l06Rows.f k a0_0 l0_1).bind fun t841 => ((spec_l02Diameter.f k a0_0 l0_1).bind fun bt844 => (if 0 ≤ (wrap64 (bt844.1 + 1)) then (if (wrap64 (bt844.1 + 1) : Int).toNat ≤ 35184372088832 then ((some (List.replicate (wrap64 (bt844.1 + 1) : Int).toNat 0 : List Int)).bind fun y846 => (spec_l06Arrays.l0 k t841 bt844.1 y846 (List.replicate (wrap64 (bt844.1 + 1) : Int).toNat 0) (y846.length : Int) 0 a0_0 l0_1)) else (none)) else (none)))
theorem spec_l06Arrays.mono_l : ∀ k, (∀ y0 y1 y2 y3 y4 y5 y6 y7, LeO (spec_l06Arrays.l0 k y0 y1 y2 y3 y4 y5 y6 y7) (spec_l06Arrays.l0 (k + 1) y0 y1 y2 y3 y4 y5 y6 y7)) ∧ (∀ y0 y1 y2 y3 y4 y5 y6, LeO (spec_l06Arrays.l1 k y0 y1 y2 y3 y4 y5 y6) (spec_l06Arrays.l1 (k + 1) y0 y1 y2 y3 y4 y5 y6)) ∧ (∀ y0 y1 y2 y3 y4 y5 y6 y7, LeO (spec_l06Arrays.l2 k y0 y1 y2 y3 y4 y5 y6 y7) (spec_l06Arrays.l2 (k + 1) y0 y1 y2 y3 y4 y5 y6 y7)) ∧ (∀ y0 y1 y2 y3 y4 y5 y6 y7 y8 y9 y10 y11, LeO (spec_l06Arrays.l3 k y0 y1 y2 y3 y4 y5 y6 y7 y8 y9 y10 y11) (spec_l06Arrays.l3 (k + 1) y0 y1 y2 y3 y4 y5 y6 y7 y8 y9 y10 y11))
  | 0 => ⟨fun _ _ _ _ _ _ _ _ r h => by simp [spec_l06Arrays.l0] at h, fun _ _ _ _ _ _ _ r h => by simp [spec_l06Arrays.l1] at h, fun _ _ _ _ _ _ _ _ r h => by simp [spec_l06Arrays.l2] at h, fun _ _ _ _ _ _ _ _ _ _ _ _ r h => by simp [spec_l06Arrays.l3] at h⟩
  | k + 1 => by
    obtain ⟨ih0, ih1, ih2, ih3⟩ := spec_l06Arrays.mono_l k
    refine ⟨?_, ?_, ?_, ?_⟩
    · intro y0 y1 y2 y3 y4 y5 y6 y7
      unfold spec_l06Arrays.l0
      repeat' first
      | (with_reducible exact ih0 _ _ _ _ _ _ _ _)
      | (with_reducible exact ih1 _ _ _ _ _ _ _)
      | (with_reducible exact ih2 _ _ _ _ _ _ _ _)
      | (with_reducible exact ih3 _ _ _ _ _ _ _ _ _ _ _ _)
      | (with_reducible exact spec_l02Diameter.mono _ _ _)
      | (with_reducible exact spec_l06Rows.mono _ _ _)
      | (with_reducible exact LeO.refl _)
      | (with_reducible exact LeO.none _)
      | (with_reducible refine LeO.ite ?_ ?_)
      | (with_reducible refine LeO.bind ?_ (fun _ => ?_))
      | exact ih0 _ _ _ _ _ _ _ _
      | exact ih1 _ _ _ _ _ _ _
      | exact ih2 _ _ _ _ _ _ _ _
      | exact ih3 _ _ _ _ _ _ _ _ _ _ _ _
      | exact spec_l02Diameter.mono _ _ _
      | exact spec_l06Rows.mono _ _ _
      | exact LeO.none _
      | refine LeO.ite ?_ ?_
      | refine LeO.bind ?_ (fun _ => ?_)
    · intro y0 y1 y2 y3 y4 y5 y6
      unfold spec_l06Arrays.l1
      repeat' first
      | (with_reducible exact ih0 _ _ _ _ _ _ _ _)
      | (with_reducible exact ih1 _ _ _ _ _ _ _)
      | (with_reducible exact ih2 _ _ _ _ _ _ _ _)
      | (with_reducible exact ih3 _ _ _ _ _ _ _ _ _ _ _ _)
      | (with_reducible exact spec_l02Diameter.mono _ _ _)
      | (with_reducible exact spec_l06Rows.mono _ _ _)
      | (with_reducible exact LeO.refl _)
      | (with_reducible exact LeO.none _)
      | (with_reducible refine LeO.ite ?_ ?_)
      | (with_reducible refine LeO.bind ?_ (fun _ => ?_))
      | exact ih0 _ _ _ _ _ _ _ _
      | exact ih1 _ _ _ _ _ _ _
      | exact ih2 _ _ _ _ _ _ _ _
      | exact ih3 _ _ _ _ _ _ _ _ _ _ _ _
      | exact spec_l02Diameter.mono _ _ _
      | exact spec_l06Rows.mono _ _ _
      | exact LeO.none _
      | refine LeO.ite ?_ ?_
      | refine LeO.bind ?_ (fun _ => ?_)
    · intro y0 y1 y2 y3 y4 y5 y6 y7
      unfold spec_l06Arrays.l2
      repeat' first
      | (with_reducible exact ih0 _ _ _ _ _ _ _ _)
      | (with_reducible exact ih1 _ _ _ _ _ _ _)
      | (with_reducible exact ih2 _ _ _ _ _ _ _ _)
      | (with_reducible exact ih3 _ _ _ _ _ _ _ _ _ _ _ _)
      | (with_reducible exact spec_l02Diameter.mono _ _ _)
      | (with_reducible exact spec_l06Rows.mono _ _ _)
      | (with_reducible exact LeO.refl _)
      | (with_reducible exact LeO.none _)
      | (with_reducible refine LeO.ite ?_ ?_)
      | (with_reducible refine LeO.bind ?_ (fun _ => ?_))
      | exact ih0 _ _ _ _ _ _ _ _
      | exact ih1 _ _ _ _ _ _ _
      | exact ih2 _ _ _ _ _ _ _ _
      | exact ih3 _ _ _ _ _ _ _ _ _ _ _ _
      | exact spec_l02Diameter.mono _ _ _
      | exact spec_l06Rows.mono _ _ _
      | exact LeO.none _
      | refine LeO.ite ?_ ?_
      | refine LeO.bind ?_ (fun _ => ?_)
    · intro y0 y1 y2 y3 y4 y5 y6 y7 y8 y9 y10 y11
      unfold spec_l06Arrays.l3
      repeat' first
      | (with_reducible exact ih0 _ _ _ _ _ _ _ _)
      | (with_reducible exact ih1 _ _ _ _ _ _ _)
      | (with_reducible exact ih2 _ _ _ _ _ _ _ _)
      | (with_reducible exact ih3 _ _ _ _ _ _ _ _ _ _ _ _)
      | (with_reducible exact spec_l02Diameter.mono _ _ _)
      | (with_reducible exact spec_l06Rows.mono _ _ _)
      | (with_reducible exact LeO.refl _)
      | (with_reducible exact LeO.none _)
      | (with_reducible refine LeO.ite ?_ ?_)
      | (with_reducible refine LeO.bind ?_ (fun _ => ?_))
      | exact ih0 _ _ _ _ _ _ _ _
      | exact ih1 _ _ _ _ _ _ _
      | exact ih2 _ _ _ _ _ _ _ _
      | exact ih3 _ _ _ _ _ _ _ _ _ _ _ _
      | exact spec_l02Diameter.mono _ _ _
      | exact spec_l06Rows.mono _ _ _
      | exact LeO.none _
      | refine LeO.ite ?_ ?_
      | refine LeO.bind ?_ (fun _ => ?_)
theorem spec_l06Arrays.mono : ∀ a0 a1 k, LeO (spec_l06Arrays.f k a0 a1) (spec_l06Arrays.f (k + 1) a0 a1) := by
  intro a0 a1 k
  obtain ⟨ih0, ih1, ih2, ih3⟩ := spec_l06Arrays.mono_l k
  unfold spec_l06Arrays.f
  repeat' first
      | (with_reducible exact ih0 _ _ _ _ _ _ _ _)
      | (with_reducible exact ih1 _ _ _ _ _ _ _)
      | (with_reducible exact ih2 _ _ _ _ _ _ _ _)
      | (with_reducible exact ih3 _ _ _ _ _ _ _ _ _ _ _ _)
      | (with_reducible exact spec_l02Diameter.mono _ _ _)
      | (with_reducible exact spec_l06Rows.mono _ _ _)
      | (with_reducible exact LeO.refl _)
      | (with_reducible exact LeO.none _)
      | (with_reducible refine LeO.ite ?_ ?_)
      | (with_reducible refine LeO.bind ?_ (fun _ => ?_))
      | exact ih0 _ _ _ _ _ _ _ _
      | exact ih1 _ _ _ _ _ _ _
      | exact ih2 _ _ _ _ _ _ _ _
      | exact ih3 _ _ _ _ _ _ _ _ _ _ _ _
      | exact spec_l02Diameter.mono _ _ _
      | exact spec_l06Rows.mono _ _ _
      | exact LeO.none _
      | refine LeO.ite ?_ ?_
      | refine LeO.bind ?_ (fun _ => ?_)
def spec_l06Arrays.T3 : Bool × List (List Nat × List Nat) := (true, [([], []), ([0], [0]), ([1, 1], [1]), ([], []), ([3], [3]), ([4, 4], [4]), ([2, 0, 1, 2], [2]), ([5, 6, 0, 1, 2, 3, 4, 5, 6], [5])])
def spec_l06Arrays.B3 : List Nat := [0, 1, 3, 0, 8, 24, 7, 127]
theorem spec_l06Arrays.tab3 : rtab .any (opsOf Tryd.f78 3) = spec_l06Arrays.T3 := by kernel_rfl
theorem spec_l06Arrays.bits3 : waitsOk spec_l06Arrays.T3.2 spec_l06Arrays.B3 = true := by kernel_rfl
def spec_l06Arrays.T29 : Bool × List (List Nat × List Nat) := (true, [([], []), ([], []), ([0, 1], [0, 1]), ([2], [2]), ([], []), ([4], [4]), ([5, 3], [5]), ([3, 6, 0, 1, 2, 3], [3]), ([6, 7, 0, 1, 2, 3, 4, 5, 6, 7], [6]), ([8, 0, 1, 2, 3, 4, 5, 6, 7, 8], [])])
def spec_l06Arrays.B29 : List Nat := [0, 0, 3, 7, 0, 16, 63, 127, 255, 511]
theorem spec_l06Arrays.tab29 : rtab .any (opsOf Tryd.f78 29) = spec_l06Arrays.T29 := by kernel_rfl
theorem spec_l06Arrays.bits29 : waitsOk spec_l06Arrays.T29.2 spec_l06Arrays.B29 = true := by kernel_rfl
set_option maxHeartbeats 8000000 in
set_option maxRecDepth 100000 in
theorem spec_l06Arrays.calls (k : Nat) (a0_0 : Int) (A0_1 : Option Addr) (c0_1 : Nat) (l0_1 : List Int) (r1 : List Int) (r2 : List Int) (r3 : Bool) (w : World) (hr0_1 : Kd.C (Kd.int .i64) w A0_1 l0_1.length l0_1) (hc0_1 : l0_1.length ≤ c0_1) (h : spec_l06Arrays.f k a0_0 l0_1 = some (r1, r2, r3)) :
    Calls Tryd.prog 78 #[.agg #[.int .i64 a0_0, .slice A0_1 l0_1.length c0_1]] w fun e w' => ∃ v0_ v1_ : Value, e = .returned (.tuple #[v0_, v1_, .bool r3]) ∧ Kd.R (Kd.int .i64) 2 w' w.heap.size (fun k_ => some k_ ≠ (v1_ : Value).ownBlock) v0_ r1 ∧ Kd.R (Kd.int .i64) 2 w' w.heap.size (fun k_ => some k_ ≠ (v0_ : Value).ownBlock) v1_ r2 ∧ Below w.heap.size w w' := by
  have hu26 := Tryd.underlying26
  have HR0_1 := Aside0.mk hr0_1
  have HC0_1 := Aside0.mk hc0_1
  clear hr0_1 hc0_1
  have HB := Aside0.mk (Below.refl w.heap.size w)
  have H : ((spec_l06Rows.f k a0_0 l0_1).bind fun t841 => ((spec_l02Diameter.f k a0_0 l0_1).bind fun bt844 => (if 0 ≤ (wrap64 (bt844.1 + 1)) then (if (wrap64 (bt844.1 + 1) : Int).toNat ≤ 35184372088832 then ((some (List.replicate (wrap64 (bt844.1 + 1) : Int).toNat 0 : List Int)).bind fun y846 => (spec_l06Arrays.l0 k t841 bt844.1 y846 (List.replicate (wrap64 (bt844.1 + 1) : Int).toNat 0) (y846.length : Int) 0 a0_0 l0_1)) else (none)) else (none)))) = some (r1, r2, r3) := h
  clear h
  replace H := Option.bind_eq_some_iff.mp H
  obtain ⟨t841, A20, H⟩ := H
  replace H : ((spec_l02Diameter.f k a0_0 l0_1).bind fun bt844 => (if 0 ≤ (wrap64 (bt844.1 + 1)) then (if (wrap64 (bt844.1 + 1) : Int).toNat ≤ 35184372088832 then ((some (List.replicate (wrap64 (bt844.1 + 1) : Int).toNat 0 : List Int)).bind fun y846 => (spec_l06Arrays.l0 k t841 bt844.1 y846 (List.replicate (wrap64 (bt844.1 + 1) : Int).toNat 0) (y846.length : Int) 0 a0_0 l0_1)) else (none)) else (none))) = some (r1, r2, r3) := H
  have A2 := Aside0.mk A20
  clear A20
  replace H := Option.bind_eq_some_iff.mp H
  obtain ⟨⟨t844, t845⟩, A30, H⟩ := H
  replace H : (if 0 ≤ (wrap64 (t844 + 1)) then (if (wrap64 (t844 + 1) : Int).toNat ≤ 35184372088832 then ((some (List.replicate (wrap64 (t844 + 1) : Int).toNat 0 : List Int)).bind fun y846 => (spec_l06Arrays.l0 k t841 t844 y846 (List.replicate (wrap64 (t844 + 1) : Int).toNat 0) (y846.length : Int) 0 a0_0 l0_1)) else (none)) else (none)) = some (r1, r2, r3) := H
  have A3 := Aside0.mk A30
  clear A30
  obtain ⟨ji4, hji4⟩ : ∃ j_ : Int, (wrap64 (t844 + 1)) = j_ := ⟨_, rfl⟩
  replace H : (if 0 ≤ (ji4) then (if (ji4 : Int).toNat ≤ 35184372088832 then ((some (List.replicate (ji4 : Int).toNat 0 : List Int)).bind fun y846 => (spec_l06Arrays.l0 k t841 t844 y846 (List.replicate (ji4 : Int).toNat 0) (y846.length : Int) 0 a0_0 l0_1)) else (none)) else (none)) = some (r1, r2, r3) := by first | (rw [hji4] at H; exact H) | (simp only [hji4] at H ⊢; exact H)
  (try rw [hji4] at A2)
  (try rw [hji4] at A3)
  have hji4w : (IntKind.i64.wrap (t844 + 1)) = ji4 := (i64_w _).trans hji4
  by_cases c5 : 0 ≤ (ji4)
  · rw [if_pos c5] at H
    have c5b0 := eq_true c5
    have c5b1 : decide (0 ≤ (ji4)) = true := decide_eq_true c5
    clear c5
    by_cases c6 : (ji4 : Int).toNat ≤ 35184372088832
    · rw [if_pos c6] at H
      have c6b0 := eq_true c6
      have c6b1 : decide ((ji4 : Int).toNat ≤ 35184372088832) = true := decide_eq_true c6
      clear c6
      obtain ⟨y846, hy846⟩ : ∃ y_ : List Int, y_ = (List.replicate (ji4 : Int).toNat 0) := ⟨_, rfl⟩
      replace H : (spec_l06Arrays.l0 k t841 t844 y846 (List.replicate (ji4 : Int).toNat 0) (y846.length : Int) 0 a0_0 l0_1) = some (r1, r2, r3) := by first | (rw [hy846]; with_reducible exact H) | (have H2_ := (Option.bind_some _ _).symm.trans H; rw [hy846]; with_reducible exact H2_) | (have H2_ := (Option.bind_some _ _).symm.trans H; with_reducible exact H2_) | with_reducible exact H | (rw [hy846]; exact H) | exact H
      have Ny846 := Aside0.mk hy846
      clear hy846
      obtain ⟨y849, hy849⟩ : ∃ y_ : List Int, y_ = (List.replicate (ji4 : Int).toNat 0) := ⟨_, rfl⟩
      replace H : (spec_l06Arrays.l0 k t841 t844 y846 y849 (y846.length : Int) 0 a0_0 l0_1) = some (r1, r2, r3) := by first | (rw [hy849]; with_reducible exact H) | (have H2_ := (Option.bind_some _ _).symm.trans H; rw [hy849]; with_reducible exact H2_) | (have H2_ := (Option.bind_some _ _).symm.trans H; with_reducible exact H2_) | with_reducible exact H | (rw [hy849]; exact H) | exact H
      have Ny849 := Aside0.mk hy849
      clear hy849
      have H' := Aside0.mk H
      clear H
      go_enter Tryd.func78, Tryd.ntmps78
      try go_wp2_with (first | ((with_reducible refine gate_dst (N := 1) rfl ?_); refine box_event ?hg (N := 1) ?hd (cs := #[.int .i64 a0_0, .slice A0_1 l0_1.length c0_1]) (t := 26) ?hr ?_; (case hd => rfl); (case hg => rfl); (case hr => first | (go_simp; done) | (go_simp; rfl)); intro gb840 hg w7 hbox hb; have n0_ := Aside0.mk (below_step (by repeat (first | (with_reducible first | exact HB.out | apply below_alloc | apply pw_below_drewN | apply below_drew1) | exact HB.out)) hb); have n1_ := Aside0.mk (hbox); have n2_ := Aside0.mk ((by rw [hg]; exact (below_size (by repeat (first | (with_reducible first | exact HB.out | apply below_alloc | apply pw_below_drewN | apply below_drew1) | exact HB.out))) : w.heap.size ≤ gb840)); have n3_ := Aside0.mk ((by rw [hg]; exact (below_size (by repeat (first | (with_reducible first | exact HB.out | apply below_alloc | apply pw_below_drewN | apply below_drew1) | exact HB.out))) : w.heap.size ≤ gb840)); clear HB; have HB := n0_; have BK840 := n1_; have GW840 := n2_; have GE840 := n3_; clear n0_ n1_ n2_ n3_; clear hb hbox hg; have hcz8_0 : w7.cell? ⟨gb840, 0, none⟩ = some (.int .i64 a0_0) := (blk_cell BK840.out 0).trans rfl; have hcz8_1 : w7.cell? ⟨gb840, 1, none⟩ = some (.slice A0_1 l0_1.length c0_1) := (blk_cell BK840.out 1).trans rfl; have hfz8_0 := blk_frozen BK840.out 0; have hfz8_1 := blk_frozen BK840.out 1) | ((with_reducible refine gate_callee (f := 94) rfl ?_); refine goesL_ (some 18) rfl rfl Tryd.func94 (by kernel_rfl) rfl #[.agg #[.int .i64 a0_0, .slice A0_1 l0_1.length c0_1]] rfl (by (try simp only [List.map_toArray, List.map_cons, List.map_nil]); first | done | rfl | (simp only [List.length_drop, List.length_take]; rfl)) ?_; (with_reducible refine (spec_l06Rows.calls k a0_0 _ _ l0_1 t841 _ ?side1 ?side2 A2.out).mono ?_); (case side1 => repeat (first | exact (Kd.C_below HR0_1.out HB.out) | (with_reducible refine Kd.C_alloc ?_ _) | (with_reducible refine Kd.C_drewN ?_ _) | (with_reducible refine Kd.C_drew ?_))); (case side2 => exact HC0_1.out); rintro e w9 ⟨v842, rfl, ho0, hb⟩; refine ⟨_, rfl, ?_⟩; have n0_ := Aside0.mk (Kd.S_lower ho0 (below_size (by repeat (first | (with_reducible first | exact HB.out | apply below_alloc | apply pw_below_drewN | apply below_drew1 | refine below_set ?_ GE840.out) | exact HB.out)))); have n1_ := Aside0.mk (blk_below (g := gb840) (o := .cells #[.int .i64 a0_0, .slice A0_1 l0_1.length c0_1] 26 (0, 0)) (by (with_reducible repeat (first | refine blk_drewN ?_ _ | refine blk_drew ?_ | refine blk_alloc ?_ _)); exact BK840.out) hb); have n2_ := Aside0.mk (below_step (by repeat (first | (with_reducible first | exact HB.out | apply below_alloc | apply pw_below_drewN | apply below_drew1 | refine below_set ?_ GE840.out) | exact HB.out)) hb); clear BK840; clear HB; have HO843 := n0_; have BK840 := n1_; have HB := n2_; clear n0_ n1_ n2_; (try clear hb); (try clear hb2); (try clear hk); (try clear hi); (try clear ho0); have hcz10_0 : w9.cell? ⟨gb840, 0, none⟩ = some (.int .i64 a0_0) := (blk_cell BK840.out 0).trans rfl; have hcz10_1 : w9.cell? ⟨gb840, 1, none⟩ = some (.slice A0_1 l0_1.length c0_1) := (blk_cell BK840.out 1).trans rfl; have hfz10_0 := blk_frozen BK840.out 0; have hfz10_1 := blk_frozen BK840.out 1) | ((with_reducible refine gate_callee (f := 82) rfl ?_); refine goesL_ (some 21) rfl rfl Tryd.func82 (by kernel_rfl) rfl #[.agg #[.int .i64 a0_0, .slice A0_1 l0_1.length c0_1]] rfl (by (try simp only [List.map_toArray, List.map_cons, List.map_nil]); first | done | rfl | (simp only [List.length_drop, List.length_take]; rfl)) ?_; (with_reducible refine (spec_l02Diameter.calls k a0_0 _ _ l0_1 t844 t845 _ ?side1 ?side2 A3.out).mono ?_); (case side1 => repeat (first | exact (Kd.C_below HR0_1.out HB.out) | (with_reducible refine Kd.C_alloc ?_ _) | (with_reducible refine Kd.C_drewN ?_ _) | (with_reducible refine Kd.C_drew ?_))); (case side2 => exact HC0_1.out); rintro e w11 ⟨rfl, hb⟩; refine ⟨_, rfl, ?_⟩; have n0_ := Aside0.mk (Kd.S_below (by (with_reducible repeat (first | apply Kd.S_alloc | apply Kd.S_drewN | apply Kd.S_drew)); exact HO843.out) hb); have n1_ := Aside0.mk (blk_below (g := gb840) (o := .cells #[.int .i64 a0_0, .slice A0_1 l0_1.length c0_1] 26 (0, 0)) (by (with_reducible repeat (first | refine blk_drewN ?_ _ | refine blk_drew ?_ | refine blk_alloc ?_ _)); exact BK840.out) hb); have n2_ := Aside0.mk (below_step (by repeat (first | (with_reducible first | exact HB.out | apply below_alloc | apply pw_below_drewN | apply below_drew1 | refine below_set ?_ GE840.out) | exact HB.out)) hb); clear HO843; clear BK840; clear HB; have HO843 := n0_; have BK840 := n1_; have HB := n2_; clear n0_ n1_ n2_; (try clear hb); (try clear hb2); (try clear hk); (try clear hi)))
      have n0_ := Aside0.mk (Kd.S_drew HO843.out)
      have n1_ := Aside0.mk (blk_drew BK840.out)
      have n2_ := Aside0.mk (below_drew1 HB.out)
      clear HO843
      clear BK840
      clear HB
      have HO843 := n0_
      have BK840 := n1_
      have HB := n2_
      clear n0_ n1_ n2_
      refine start_ (n := 8) (S := fun w' => True) (ds := []) #[false, false, false, false, false, false, false, false] (by kernel_rfl) rfl rfl trivial (fun hHeld => ?_); refine with_tabW spec_l06Arrays.tab3 spec_l06Arrays.bits3 (fun HT_ HW_ => ?_)
      generalize w11.drew = w12 at HO843 BK840 HB hHeld ⊢
      refine pure_ (i := 0) (N := some 24) (v := ?_) (a' := ?_) #[true, false, false, false, false, false, false, false] rfl rfl (any_of HT_.out (by kernel_rfl)) (fun _ _ _ h => h) (Or.inl ⟨by rfl, ?_⟩) ?_ ?_
      rotate_left
      · intro w'
        go_simp
        with_reducible rfl
      rotate_left
      · simp only [Act.put, List.setIfInBounds_toArray, List.set_cons_zero, List.set_cons_succ, i64_w, i32_w]
        rfl
      refine pure_ (i := 1) (N := some 25) (v := ?_) (a' := ?_) #[true, true, false, false, false, false, false, false] rfl rfl (any_of HT_.out (by kernel_rfl)) (fun _ _ _ h => h) (Or.inl ⟨by rfl, ?_⟩) ?_ ?_
      rotate_left
      · intro w'
        go_simp
        with_reducible rfl
      rotate_left
      · simp only [Act.put, List.setIfInBounds_toArray, List.set_cons_zero, List.set_cons_succ, i64_w, i32_w]
        rfl
      refine pure_ (i := 3) (N := some 27) (v := ?_) (a' := ?_) #[true, true, false, true, false, false, false, false] rfl rfl (any_of HT_.out (by kernel_rfl)) (fun _ _ _ h => h) (Or.inl ⟨by rfl, ?_⟩) ?_ ?_
      rotate_left
      · intro w'
        go_simp
        with_reducible rfl
      rotate_left
      · simp only [Act.put, List.setIfInBounds_toArray, List.set_cons_zero, List.set_cons_succ, i64_w, i32_w]
        rfl
      refine pure_ (i := 4) (N := some 28) (v := ?_) (a' := ?_) #[true, true, false, true, true, false, false, false] rfl rfl (any_of HT_.out (by kernel_rfl)) (fun _ _ _ h => h) (Or.inl ⟨by rfl, ?_⟩) ?_ ?_
      rotate_left
      · intro w'
        go_simp
        with_reducible rfl
      rotate_left
      · simp only [Act.put, List.setIfInBounds_toArray, List.set_cons_zero, List.set_cons_succ, i64_w, i32_w]
        rfl
      refine join_ (σ := Value × Value) 1 #[true, true, true, true, true, true, true, false] (fun s_ => [(26, s_.1), (29, s_.2), (8, s_.1)]) (fun s_ w' => (Kd.S (Kd.slice 2 (Kd.int .i64)) 22 w' w.heap.size (fun k_ => some k_ ≠ (s_.1 : Value).ownBlock ∧ some k_ ≠ (s_.2 : Value).ownBlock) v842 t841) ∧ (Kd.R (Kd.int .i64) 2 w' w.heap.size (fun k_ => some k_ ≠ (s_.2 : Value).ownBlock) s_.1 y846) ∧ (Kd.R (Kd.int .i64) 2 w' w.heap.size (fun k_ => some k_ ≠ (s_.1 : Value).ownBlock) s_.2 y849) ∧ (w'.heap[gb840]? = some (.cells #[.int .i64 a0_0, .slice A0_1 l0_1.length c0_1] 26 (0, 0))) ∧ (Below w.heap.size w w')) ?_ ?_
      rotate_left
      · intro hCont
        refine two_ (i := 2) (j := 5) (Ni := some 26) (Nj := some 29) #[true, true, true, true, true, false, false, false] #[true, true, false, true, true, true, false, false] rfl rfl rfl rfl (two_of HT_.out (by kernel_rfl)) (by decide) (by decide) (fun K hK => ?_) (fun K hK => ?_)
        · skip
          refine Kd.R_make_step (Kd.int .i64) _ 2 (by rfl) (N := 26) rfl 22 _ _ rfl ji4 rfl rfl Tryd.underlying22 (.int .i64 0) 8 info2 rfl (by decide) (by omega) 0 (ok := fun _ => True) (okp := fun _ => True) rfl (fun _ hk => hk) trivial (of_decide_eq_true (by first | (with_reducible assumption) | assumption)) (Nat.le_trans (Nat.mul_le_mul_right _ (of_decide_eq_true (by first | (with_reducible assumption) | assumption) : ji4.toNat ≤ 35184372088832)) (by omega)) (Below.refl _ _) (Nat.le_refl _) ?_
          intro v847 w13 ho14 hb hg_ hnew_
          clear hg_ hnew_
          (first | rw [← Ny846.out] at ho14 | (simp only [Int.reduceToNat] at ho14; rw [← Ny846.out] at ho14))
          have n0_ := Aside0.mk (Kd.S_elder' (by (with_reducible repeat (first | apply Kd.S_alloc | apply Kd.S_drewN | apply Kd.S_drew)); exact HO843.out) (Kd.R_base ho14) hb)
          have n1_ := Aside0.mk (Kd.R_lower ho14 (below_size (by repeat (first | (with_reducible first | exact HB.out | apply below_alloc | apply pw_below_drewN | apply below_drew1 | refine below_set ?_ GE840.out) | exact HB.out))))
          have n2_ := Aside0.mk (blk_below (g := gb840) (o := .cells #[.int .i64 a0_0, .slice A0_1 l0_1.length c0_1] 26 (0, 0)) (by (with_reducible repeat (first | refine blk_drewN ?_ _ | refine blk_drew ?_ | refine blk_alloc ?_ _)); exact BK840.out) hb)
          have n3_ := Aside0.mk (below_step (by repeat (first | (with_reducible first | exact HB.out | apply below_alloc | apply pw_below_drewN | apply below_drew1 | refine below_set ?_ GE840.out) | exact HB.out)) hb)
          clear HO843
          clear BK840
          clear HB
          have HO843 := n0_
          have HO848 := n1_
          have BK840 := n2_
          have HB := n3_
          clear n0_ n1_ n2_ n3_
          clear hb ho14
          refine hK.out _ _ trivial (fun hHeld => ?_)
          clear hK K
          refine norm_ (a' := ?_) ?_ ?_
          rotate_left
          · show Act.put _ (some 26) _ = _
            simp only [Act.put, List.setIfInBounds_toArray, List.set_cons_zero, List.set_cons_succ, i64_w, i32_w]
            rfl
          refine pure_ (i := 6) (N := some 8) (v := ?_) (a' := ?_) #[true, true, true, true, true, false, true, false] rfl rfl (any_of HT_.out (by kernel_rfl)) (fun _ _ _ h => h) (Or.inl ⟨by rfl, ?_⟩) ?_ ?_
          rotate_left
          · intro w'
            go_simp
            with_reducible rfl
          rotate_left
          · simp only [Act.put, List.setIfInBounds_toArray, List.set_cons_zero, List.set_cons_succ, i64_w, i32_w]
            rfl
          refine one_ (i := 5) (N := some 29) #[true, true, true, true, true, true, true, false] rfl rfl (one_of HT_.out (by kernel_rfl)) (by decide) (fun K hK => ?_)
          refine Kd.R_make_step (Kd.int .i64) _ 2 (by rfl) (N := 29) rfl 22 _ _ rfl ji4 rfl rfl Tryd.underlying22 (.int .i64 0) 8 info2 rfl (by decide) (by omega) 0 (ok := fun _ => True) (okp := fun _ => True) rfl (fun _ hk => hk) trivial (of_decide_eq_true (by first | (with_reducible assumption) | assumption)) (Nat.le_trans (Nat.mul_le_mul_right _ (of_decide_eq_true (by first | (with_reducible assumption) | assumption) : ji4.toNat ≤ 35184372088832)) (by omega)) (Below.refl _ _) (Nat.le_refl _) ?_
          intro v850 w15 ho16 hb hg_ hnew_
          clear hg_ hnew_
          (first | rw [← Ny849.out] at ho16 | (simp only [Int.reduceToNat] at ho16; rw [← Ny849.out] at ho16))
          have n0_ := Aside0.mk (Kd.S_elder' (by (with_reducible repeat (first | apply Kd.S_alloc | apply Kd.S_drewN | apply Kd.S_drew)); exact HO843.out) (Kd.R_base ho16) hb)
          have n1_ := Aside0.mk (Kd.R_elder' (by (with_reducible repeat (first | apply Kd.R_alloc | apply Kd.R_drewN | apply Kd.R_drew)); exact HO848.out) (Kd.R_base ho16) hb)
          have n2_ := Aside0.mk (Kd.R_lower (Kd.R_new' ho16 (Kd.R_lt (by (with_reducible repeat (first | apply Kd.R_alloc | apply Kd.R_drewN | apply Kd.R_drew)); exact HO848.out))) (below_size (by repeat (first | (with_reducible first | exact HB.out | apply below_alloc | apply pw_below_drewN | apply below_drew1 | refine below_set ?_ GE840.out) | exact HB.out))))
          have n3_ := Aside0.mk (blk_below (g := gb840) (o := .cells #[.int .i64 a0_0, .slice A0_1 l0_1.length c0_1] 26 (0, 0)) (by (with_reducible repeat (first | refine blk_drewN ?_ _ | refine blk_drew ?_ | refine blk_alloc ?_ _)); exact BK840.out) hb)
          have n4_ := Aside0.mk (below_step (by repeat (first | (with_reducible first | exact HB.out | apply below_alloc | apply pw_below_drewN | apply below_drew1 | refine below_set ?_ GE840.out) | exact HB.out)) hb)
          clear HO843
          clear HO848
          clear BK840
          clear HB
          have HO843 := n0_
          have HO848 := n1_
          have HO851 := n2_
          have BK840 := n3_
          have HB := n4_
          clear n0_ n1_ n2_ n3_ n4_
          clear hb ho16
          refine hK.out _ _ trivial (fun hHeld => ?_)
          clear hK K
          refine norm_ (a' := ?_) ?_ ?_
          rotate_left
          · show Act.put _ (some 29) _ = _
            simp only [Act.put, List.setIfInBounds_toArray, List.set_cons_zero, List.set_cons_succ, i64_w, i32_w]
            rfl
          exact norm_ (by simp only [putAll, Act.put, List.setIfInBounds_toArray, List.set_cons_zero, List.set_cons_succ]) (hCont (v847, v850) _ ⟨(by (with_reducible repeat (first | apply Kd.S_alloc | apply Kd.S_drewN | apply Kd.S_drew)); exact Kd.S_mono HO843.out (fun _ hk => ⟨hk.1.2, hk.2⟩)), (by (with_reducible repeat (first | apply Kd.R_alloc | apply Kd.R_drewN | apply Kd.R_drew)); exact Kd.R_mono HO848.out (fun _ hk => hk.2)), (by (with_reducible repeat (first | apply Kd.R_alloc | apply Kd.R_drewN | apply Kd.R_drew)); exact Kd.R_mono HO851.out (fun _ hk => hk.2)), (by (with_reducible repeat (first | refine blk_drewN ?_ _ | refine blk_drew ?_ | refine blk_alloc ?_ _)); exact BK840.out), (by repeat (first | (with_reducible first | exact HB.out | apply below_alloc | apply pw_below_drewN | apply below_drew1 | refine below_set ?_ GE840.out) | exact HB.out))⟩)
        · skip
          refine Kd.R_make_step (Kd.int .i64) _ 2 (by rfl) (N := 29) rfl 22 _ _ rfl ji4 rfl rfl Tryd.underlying22 (.int .i64 0) 8 info2 rfl (by decide) (by omega) 0 (ok := fun _ => True) (okp := fun _ => True) rfl (fun _ hk => hk) trivial (of_decide_eq_true (by first | (with_reducible assumption) | assumption)) (Nat.le_trans (Nat.mul_le_mul_right _ (of_decide_eq_true (by first | (with_reducible assumption) | assumption) : ji4.toNat ≤ 35184372088832)) (by omega)) (Below.refl _ _) (Nat.le_refl _) ?_
          intro v850 w13 ho14 hb hg_ hnew_
          clear hg_ hnew_
          (first | rw [← Ny849.out] at ho14 | (simp only [Int.reduceToNat] at ho14; rw [← Ny849.out] at ho14))
          have n0_ := Aside0.mk (Kd.S_elder' (by (with_reducible repeat (first | apply Kd.S_alloc | apply Kd.S_drewN | apply Kd.S_drew)); exact HO843.out) (Kd.R_base ho14) hb)
          have n1_ := Aside0.mk (Kd.R_lower ho14 (below_size (by repeat (first | (with_reducible first | exact HB.out | apply below_alloc | apply pw_below_drewN | apply below_drew1 | refine below_set ?_ GE840.out) | exact HB.out))))
          have n2_ := Aside0.mk (blk_below (g := gb840) (o := .cells #[.int .i64 a0_0, .slice A0_1 l0_1.length c0_1] 26 (0, 0)) (by (with_reducible repeat (first | refine blk_drewN ?_ _ | refine blk_drew ?_ | refine blk_alloc ?_ _)); exact BK840.out) hb)
          have n3_ := Aside0.mk (below_step (by repeat (first | (with_reducible first | exact HB.out | apply below_alloc | apply pw_below_drewN | apply below_drew1 | refine below_set ?_ GE840.out) | exact HB.out)) hb)
          clear HO843
          clear BK840
          clear HB
          have HO843 := n0_
          have HO851 := n1_
          have BK840 := n2_
          have HB := n3_
          clear n0_ n1_ n2_ n3_
          clear hb ho14
          refine hK.out _ _ trivial (fun hHeld => ?_)
          clear hK K
          refine norm_ (a' := ?_) ?_ ?_
          rotate_left
          · show Act.put _ (some 29) _ = _
            simp only [Act.put, List.setIfInBounds_toArray, List.set_cons_zero, List.set_cons_succ, i64_w, i32_w]
            rfl
          refine one_ (i := 2) (N := some 26) #[true, true, true, true, true, true, false, false] rfl rfl (one_of HT_.out (by kernel_rfl)) (by decide) (fun K hK => ?_)
          refine Kd.R_make_step (Kd.int .i64) _ 2 (by rfl) (N := 26) rfl 22 _ _ rfl ji4 rfl rfl Tryd.underlying22 (.int .i64 0) 8 info2 rfl (by decide) (by omega) 0 (ok := fun _ => True) (okp := fun _ => True) rfl (fun _ hk => hk) trivial (of_decide_eq_true (by first | (with_reducible assumption) | assumption)) (Nat.le_trans (Nat.mul_le_mul_right _ (of_decide_eq_true (by first | (with_reducible assumption) | assumption) : ji4.toNat ≤ 35184372088832)) (by omega)) (Below.refl _ _) (Nat.le_refl _) ?_
          intro v847 w15 ho16 hb hg_ hnew_
          clear hg_ hnew_
          (first | rw [← Ny846.out] at ho16 | (simp only [Int.reduceToNat] at ho16; rw [← Ny846.out] at ho16))
          have n0_ := Aside0.mk (Kd.S_elder' (by (with_reducible repeat (first | apply Kd.S_alloc | apply Kd.S_drewN | apply Kd.S_drew)); exact HO843.out) (Kd.R_base ho16) hb)
          have n1_ := Aside0.mk (Kd.R_elder' (by (with_reducible repeat (first | apply Kd.R_alloc | apply Kd.R_drewN | apply Kd.R_drew)); exact HO851.out) (Kd.R_base ho16) hb)
          have n2_ := Aside0.mk (Kd.R_lower (Kd.R_new' ho16 (Kd.R_lt (by (with_reducible repeat (first | apply Kd.R_alloc | apply Kd.R_drewN | apply Kd.R_drew)); exact HO851.out))) (below_size (by repeat (first | (with_reducible first | exact HB.out | apply below_alloc | apply pw_below_drewN | apply below_drew1 | refine below_set ?_ GE840.out) | exact HB.out))))
          have n3_ := Aside0.mk (blk_below (g := gb840) (o := .cells #[.int .i64 a0_0, .slice A0_1 l0_1.length c0_1] 26 (0, 0)) (by (with_reducible repeat (first | refine blk_drewN ?_ _ | refine blk_drew ?_ | refine blk_alloc ?_ _)); exact BK840.out) hb)
          have n4_ := Aside0.mk (below_step (by repeat (first | (with_reducible first | exact HB.out | apply below_alloc | apply pw_below_drewN | apply below_drew1 | refine below_set ?_ GE840.out) | exact HB.out)) hb)
          clear HO843
          clear HO851
          clear BK840
          clear HB
          have HO843 := n0_
          have HO851 := n1_
          have HO848 := n2_
          have BK840 := n3_
          have HB := n4_
          clear n0_ n1_ n2_ n3_ n4_
          clear hb ho16
          refine hK.out _ _ trivial (fun hHeld => ?_)
          clear hK K
          refine norm_ (a' := ?_) ?_ ?_
          rotate_left
          · show Act.put _ (some 26) _ = _
            simp only [Act.put, List.setIfInBounds_toArray, List.set_cons_zero, List.set_cons_succ, i64_w, i32_w]
            rfl
          refine pure_ (i := 6) (N := some 8) (v := ?_) (a' := ?_) #[true, true, true, true, true, true, true, false] rfl rfl (any_of HT_.out (by kernel_rfl)) (fun _ _ _ h => h) (Or.inl ⟨by rfl, ?_⟩) ?_ ?_
          rotate_left
          · intro w'
            go_simp
            with_reducible rfl
          rotate_left
          · simp only [Act.put, List.setIfInBounds_toArray, List.set_cons_zero, List.set_cons_succ, i64_w, i32_w]
            rfl
          exact norm_ (by simp only [putAll, Act.put, List.setIfInBounds_toArray, List.set_cons_zero, List.set_cons_succ]) (hCont (v847, v850) _ ⟨(by (with_reducible repeat (first | apply Kd.S_alloc | apply Kd.S_drewN | apply Kd.S_drew)); exact Kd.S_mono HO843.out (fun _ hk => ⟨hk.2, hk.1.2⟩)), (by (with_reducible repeat (first | apply Kd.R_alloc | apply Kd.R_drewN | apply Kd.R_drew)); exact Kd.R_mono HO848.out (fun _ hk => hk.2)), (by (with_reducible repeat (first | apply Kd.R_alloc | apply Kd.R_drewN | apply Kd.R_drew)); exact Kd.R_mono HO851.out (fun _ hk => hk.2)), (by (with_reducible repeat (first | refine blk_drewN ?_ _ | refine blk_drew ?_ | refine blk_alloc ?_ _)); exact BK840.out), (by repeat (first | (with_reducible first | exact HB.out | apply below_alloc | apply pw_below_drewN | apply below_drew1 | refine below_set ?_ GE840.out) | exact HB.out))⟩)
      rintro ⟨v847, v850⟩ w17 ⟨h0_, h1_, h2_, h3_, h4_⟩
      have n0_ : Aside0 (Kd.S (Kd.slice 2 (Kd.int .i64)) 22 w17 w.heap.size (fun k_ => some k_ ≠ (v847 : Value).ownBlock ∧ some k_ ≠ (v850 : Value).ownBlock) v842 t841) := ⟨h0_⟩
      have n1_ : Aside0 (Kd.R (Kd.int .i64) 2 w17 w.heap.size (fun k_ => some k_ ≠ (v850 : Value).ownBlock) v847 y846) := ⟨h1_⟩
      have n2_ : Aside0 (Kd.R (Kd.int .i64) 2 w17 w.heap.size (fun k_ => some k_ ≠ (v847 : Value).ownBlock) v850 y849) := ⟨h2_⟩
      have n3_ : Aside0 (w17.heap[gb840]? = some (.cells #[.int .i64 a0_0, .slice A0_1 l0_1.length c0_1] 26 (0, 0))) := ⟨h3_⟩
      have n4_ : Aside0 (Below w.heap.size w w17) := ⟨h4_⟩
      clear HO843
      clear BK840
      clear HB
      clear h0_ h1_ h2_ h3_ h4_
      have HO843 := n0_
      have HO848 := n1_
      have HO851 := n2_
      have BK840 := n3_
      have HB := n4_
      clear n0_ n1_ n2_ n3_ n4_
      have hHeld := trivial
      refine norm_ (a' := ?_) ?_ ?_
      rotate_left
      · simp only [putAll, Act.put, List.setIfInBounds_toArray, List.set_cons_zero, List.set_cons_succ]
        rfl
      refine pure_ (i := 7) (N := some 9) (v := ?_) (a' := ?_) #[true, true, true, true, true, true, true, true] rfl rfl (any_of HT_.out (by kernel_rfl)) (fun _ _ _ h => h) (Or.inl ⟨by rfl, ?_⟩) ?_ ?_
      rotate_left
      · intro w'
        go_simp
        with_reducible rfl
      rotate_left
      · simp only [Act.put, List.setIfInBounds_toArray, List.set_cons_zero, List.set_cons_succ, i64_w, i32_w]
        rfl
      refine done_ (done_of HT_.out (by kernel_rfl)) ?_
      obtain ⟨Ao18, co18, eo18⟩ := Kd.R_slice HO848.out
      subst eo18
      try go_wp2
      go_loopg [32] k (fun kq v32 w' => ∃ (x8_1 : List Int) (x9_1 : List Int) (x32_1 : Int), v32 = .int .i64 x32_1 ∧ Aside0 (spec_l06Arrays.l0 kq t841 t844 x8_1 x9_1 (y846.length : Int) x32_1 a0_0 l0_1 = some (r1, r2, r3)) ∧ Aside0 (kq ≤ k) ∧ Aside0 (Kd.S (Kd.slice 2 (Kd.int .i64)) 22 w' w.heap.size (fun k_ => some k_ ≠ ((.slice Ao18 y846.length co18) : Value).ownBlock ∧ some k_ ≠ (v850 : Value).ownBlock) v842 t841) ∧ Aside0 (Kd.R (Kd.int .i64) 2 w' w.heap.size (fun k_ => some k_ ≠ (v850 : Value).ownBlock) (.slice Ao18 y846.length co18) x8_1) ∧ Aside0 (Kd.R (Kd.int .i64) 2 w' w.heap.size (fun k_ => some k_ ≠ ((.slice Ao18 y846.length co18) : Value).ownBlock) v850 x9_1) ∧ Aside0 (w'.heap[gb840]? = some (.cells #[.int .i64 a0_0, (.slice A0_1 l0_1.length c0_1)] 26 (0, 0))) ∧ Aside0 (Below w.heap.size w w'))
      case atStart => exact ⟨(y846), (y849), (0), (by first | rfl | (simp; done) | (simp [*]; done)), H', ⟨Nat.le_refl _⟩, ⟨by (with_reducible repeat (first | apply Kd.S_alloc | apply Kd.S_drewN | apply Kd.S_drew)); exact HO843.out⟩, ⟨by (with_reducible repeat (first | apply Kd.R_alloc | apply Kd.R_drewN | apply Kd.R_drew)); exact HO848.out⟩, ⟨by (with_reducible repeat (first | apply Kd.R_alloc | apply Kd.R_drewN | apply Kd.R_drew)); exact HO851.out⟩, ⟨by (with_reducible repeat (first | refine blk_drewN ?_ _ | refine blk_drew ?_ | refine blk_alloc ?_ _)); exact BK840.out⟩, ⟨by repeat (first | (with_reducible first | exact HB.out | apply below_alloc | apply pw_below_drewN | apply below_drew1 | refine below_set ?_ GE840.out) | exact HB.out)⟩⟩
      case round =>
        clear H'
        try clear p2
        try clear c5
        try clear c5b0
        try clear c5b1
        try clear c6
        try clear c6b0
        try clear c6b1
        try clear p6
        try clear c7
        try clear c8
        try clear c9
        try clear hcz10_0
        try clear hcz10_1
        try clear hcz8_0
        try clear hcz8_1
        try clear hfz10_0
        try clear hfz10_1
        try clear hfz8_0
        try clear hfz8_1
        obtain ⟨x8_1, x9_1, x32_1, rfl, HA, HK1, HO_5, HO_8, HO_9, BK840, HB⟩ := hrel
        have hl8_1 := (Kd.R_reads' HO_8.out).1
        rw [hl8_1] at HO_8
        (try simp only [hl8_1])
        (try simp only [hl8_1] at BK840)
        (try simp only [hl8_1] at HO_5)
        (try simp only [hl8_1] at HO_9)
        cases gk with
        | zero => exact absurd HA.out (by simp [spec_l06Arrays.l0])
        | succ k1 =>
          have H := HA.out
          clear HA
          simp only [spec_l06Arrays.l0] at H
          by_cases c19 : x32_1 < (y846.length : Int)
          · rw [if_pos c19] at H
            have c19b0 : decide (x32_1 < (y846.length : Int)) = true := decide_eq_true c19
            (try (have c19b0_hl8_1 := c19b0; rw [hl8_1] at c19b0_hl8_1))
            clear c19
            by_cases c20 : 0 ≤ x32_1
            · rw [if_pos c20] at H
              have c20b0 : decide (0 ≤ x32_1) = true := decide_eq_true c20
              clear c20
              by_cases c21 : x32_1 < (x8_1.length : Int)
              · rw [if_pos c21] at H
                have c21b0 : decide (x32_1 < (x8_1.length : Int)) = true := decide_eq_true c21
                (try (have c21b0_hl8_1 := c21b0; rw [hl8_1] at c21b0_hl8_1))
                clear c21
                obtain ⟨y852, hy852⟩ : ∃ y_ : List Int, y_ = (x8_1.set (x32_1 : Int).toNat (-1)) := ⟨_, rfl⟩
                replace H : (if x32_1 < (x9_1.length : Int) then (spec_l06Arrays.l0 k1 t841 t844 y852 (x9_1.set (x32_1 : Int).toNat (-1)) (y846.length : Int) (wrap64 (x32_1 + 1)) a0_0 l0_1) else (none)) = some (r1, r2, r3) := by first | (rw [hy852]; with_reducible exact H) | (have H2_ := (Option.bind_some _ _).symm.trans H; rw [hy852]; with_reducible exact H2_) | (have H2_ := (Option.bind_some _ _).symm.trans H; with_reducible exact H2_) | with_reducible exact H | (rw [hy852]; exact H) | exact H
                have Ny852 := Aside0.mk hy852
                clear hy852
                by_cases c23 : x32_1 < (x9_1.length : Int)
                · rw [if_pos c23] at H
                  have c23b0 : decide (x32_1 < (x9_1.length : Int)) = true := decide_eq_true c23
                  (try (have c23b0_hl8_1 := c23b0; rw [hl8_1] at c23b0_hl8_1))
                  clear c23
                  obtain ⟨y853, hy853⟩ : ∃ y_ : List Int, y_ = (x9_1.set (x32_1 : Int).toNat (-1)) := ⟨_, rfl⟩
                  replace H : (spec_l06Arrays.l0 k1 t841 t844 y852 y853 (y846.length : Int) (wrap64 (x32_1 + 1)) a0_0 l0_1) = some (r1, r2, r3) := by first | (rw [hy853]; with_reducible exact H) | (have H2_ := (Option.bind_some _ _).symm.trans H; rw [hy853]; with_reducible exact H2_) | (have H2_ := (Option.bind_some _ _).symm.trans H; with_reducible exact H2_) | with_reducible exact H | (rw [hy853]; exact H) | exact H
                  have Ny853 := Aside0.mk hy853
                  clear hy853
                  have H' := Aside0.mk H
                  clear H
                  have p22 : 0 ≤ (x32_1 : Int) := of_decide_eq_true (by first | (with_reducible assumption) | assumption)
                  have q22 : (x32_1 : Int) < ((x8_1.length : Int) : Int) := of_decide_eq_true (by first | (with_reducible assumption) | assumption)
                  obtain ⟨go22, co22, eo22, gb22, gl22, cl22, HG22⟩ := Kd.R_form HO_8.out (by omega)
                  (first | cases eo22 | (injection eo22 with ea_ en_ ec_; (first | subst ea_ | (injection ea_ with ea_; subst ea_)); subst ec_; clear en_))
                  have GB22 := Aside0.mk gb22
                  have GG22 := Aside0.mk HG22
                  clear gb22 gl22 HG22
                  obtain ⟨hx22_0, hf22_0⟩ := Kd.R_celln 0 HO_8.out (x32_1 : Int) p22 q22
                  replace p22 := eq_true p22
                  replace q22 := eq_true q22
                  have HP25 := Kd.R_putg HO_8.out (x32_1 : Int) (-1)
                  go_wp2_with (first | ((with_reducible refine gate_store (t := 2) (p := 37) rfl ?_); refine store_event (t := 2) (p := 37) (v := ?vo_w26) (w1 := (wr.setCell ⟨go22, (x32_1 : Int).toNat, none⟩ (.int .i64 (-1)))) ?hg ?ho ?hn ?hr ?_; (case ho => rfl); (case hg => rfl); (case hn => rfl); (case hr => first | (go_simp; done) | (go_simp; rfl)); intro w26 hw; have hg : wr.grownBy w26 (some go22) := (by rw [hw]; exact HP25.2); have hp_ : Kd.R (Kd.int .i64) 2 w26 w.heap.size (fun k_ => some k_ ≠ (v850 : Value).ownBlock) (.slice (some ⟨go22, 0, none⟩) x8_1.length co18) y852 := (by rw [hw, Ny852.out]; exact HP25.1); clear HP25; have n0_ := Aside0.mk (Kd.S_after (v := (.slice (some ⟨go22, 0, none⟩) x8_1.length co18)) (v1 := (.slice (some ⟨go22, 0, none⟩) x8_1.length co18)) (ok := (fun k_ => some k_ ≠ (v850 : Value).ownBlock)) (by (with_reducible repeat (first | apply Kd.S_alloc | apply Kd.S_drewN | apply Kd.S_drew)); exact Kd.S_mono HO_5.out (fun _ hk => ⟨hk.2, hk.1⟩)) hg (.inl rfl)); have n1_ := Aside0.mk (hp_); have n2_ := Aside0.mk (Kd.R_after (v := (.slice (some ⟨go22, 0, none⟩) x8_1.length co18)) (v1 := (.slice (some ⟨go22, 0, none⟩) x8_1.length co18)) (ok := (fun _ => True)) (by (with_reducible repeat (first | apply Kd.R_alloc | apply Kd.R_drewN | apply Kd.R_drew)); exact Kd.R_mono HO_9.out (fun _ hk => ⟨trivial, hk⟩)) hg (.inl rfl)); have n3_ := Aside0.mk (blk_grown (g := gb840) (o := .cells #[.int .i64 a0_0, .slice A0_1 l0_1.length c0_1] 26 (0, 0)) (by (with_reducible repeat (first | refine blk_drewN ?_ _ | refine blk_drew ?_ | refine blk_alloc ?_ _)); exact BK840.out) hg (Kd.R_ne HO_8.out BK840.out (by decide))); have n4_ := Aside0.mk ((by rw [hw]; exact below_set (HB.out) GB22.out : Below w.heap.size w w26)); clear HO_5; clear HO_8; clear HO_9; clear BK840; clear HB; have HO_5 := n0_; have HO_8 := n1_; have HO_9 := n2_; have BK840 := n3_; have HB := n4_; clear n0_ n1_ n2_ n3_ n4_; clear hg hw hp_; have p24 : 0 ≤ (x32_1 : Int) := of_decide_eq_true (by first | (with_reducible assumption) | assumption); have q24 : (x32_1 : Int) < ((x9_1.length : Int) : Int) := of_decide_eq_true (by first | (with_reducible assumption) | assumption); obtain ⟨go24, co24, eo24, gb24, gl24, cl24, HG24⟩ := Kd.R_form HO_9.out (by omega); (first | cases eo24 | (injection eo24 with ea_ en_ ec_; (first | subst ea_ | (injection ea_ with ea_; subst ea_)); subst ec_; clear en_)); have GB24 := Aside0.mk gb24; have GG24 := Aside0.mk HG24; clear gb24 gl24 HG24; obtain ⟨hx24_0, hf24_0⟩ := Kd.R_celln 0 HO_9.out (x32_1 : Int) p24 q24; replace p24 := eq_true p24; replace q24 := eq_true q24; have n_ := Aside0.mk (Kd.R_mono (ok' := (fun k_ => some k_ ≠ (.slice (some ⟨go22, 0, none⟩) x8_1.length co18 : Value).ownBlock)) HO_9.out (fun k_ hk => hk.2)); clear HO_9; have HO_9 := n_; clear n_; obtain ⟨hy27_, hz27_⟩ := Kd.R_celln 0 HO_9.out (x32_1 : Int) (of_decide_eq_true (by first | (with_reducible assumption) | assumption)) (of_decide_eq_true (by first | (with_reducible assumption) | assumption)); have HP27 := Kd.R_putg HO_9.out (x32_1 : Int) (-1)) | ((with_reducible refine gate_store (t := 2) (p := 40) rfl ?_); refine store_event (t := 2) (p := 40) (v := ?vo_w28) (w1 := (w26.setCell ⟨go24, (x32_1 : Int).toNat, none⟩ (.int .i64 (-1)))) ?hg ?ho ?hn ?hr ?_; (case ho => rfl); (case hg => rfl); (case hn => rfl); (case hr => first | (go_simp; done) | (go_simp; rfl)); intro w28 hw; have hg : w26.grownBy w28 (some go24) := (by rw [hw]; exact HP27.2); have hp_ : Kd.R (Kd.int .i64) 2 w28 w.heap.size (fun k_ => some k_ ≠ (.slice (some ⟨go22, 0, none⟩) x8_1.length co18 : Value).ownBlock) (.slice (some ⟨go24, 0, none⟩) x9_1.length co24) y853 := (by rw [hw, Ny853.out]; exact HP27.1); clear HP27; have n0_ := Aside0.mk (Kd.S_after (v := (.slice (some ⟨go24, 0, none⟩) x9_1.length co24)) (v1 := (.slice (some ⟨go24, 0, none⟩) x9_1.length co24)) (ok := (fun k_ => some k_ ≠ (.slice (some ⟨go22, 0, none⟩) x8_1.length co18 : Value).ownBlock)) (by (with_reducible repeat (first | apply Kd.S_alloc | apply Kd.S_drewN | apply Kd.S_drew)); exact Kd.S_mono HO_5.out (fun _ hk => ⟨hk.2, hk.1⟩)) hg (.inl rfl)); have n1_ := Aside0.mk (Kd.R_after (v := (.slice (some ⟨go24, 0, none⟩) x9_1.length co24)) (v1 := (.slice (some ⟨go24, 0, none⟩) x9_1.length co24)) (ok := (fun _ => True)) (by (with_reducible repeat (first | apply Kd.R_alloc | apply Kd.R_drewN | apply Kd.R_drew)); exact Kd.R_mono HO_8.out (fun _ hk => ⟨trivial, hk⟩)) hg (.inl rfl)); have n2_ := Aside0.mk (hp_); have n3_ := Aside0.mk (blk_grown (g := gb840) (o := .cells #[.int .i64 a0_0, .slice A0_1 l0_1.length c0_1] 26 (0, 0)) (by (with_reducible repeat (first | refine blk_drewN ?_ _ | refine blk_drew ?_ | refine blk_alloc ?_ _)); exact BK840.out) hg (Kd.R_ne HO_9.out BK840.out (by decide))); have n4_ := Aside0.mk ((by rw [hw]; exact below_set (HB.out) GB24.out : Below w.heap.size w w28)); clear HO_5; clear HO_8; clear HO_9; clear BK840; clear HB; have HO_5 := n0_; have HO_8 := n1_; have HO_9 := n2_; have BK840 := n3_; have HB := n4_; clear n0_ n1_ n2_ n3_ n4_; clear hg hw hp_))
                  (try simp only [← hl8_1])
                  go_roundg k1
                  case measure => have := HK1.out; omega
                  case rel => exact ⟨(y852), (y853), (wrap64 (x32_1 + 1)), (by first | rfl | (simp; done) | (simp [*]; done)), H', ⟨by have := HK1.out; omega⟩, ⟨by (try simp only [hl8_1]); (with_reducible repeat (first | apply Kd.S_alloc | apply Kd.S_drewN | apply Kd.S_drew)); exact HO_5.out⟩, ⟨by (try simp only [hl8_1]); (with_reducible repeat (first | apply Kd.R_alloc | apply Kd.R_drewN | apply Kd.R_drew)); exact Kd.R_mono HO_8.out (fun _ hk => hk.2)⟩, ⟨by (try simp only [hl8_1]); (with_reducible repeat (first | apply Kd.R_alloc | apply Kd.R_drewN | apply Kd.R_drew)); exact HO_9.out⟩, ⟨by (try simp only [hl8_1]); (with_reducible repeat (first | refine blk_drewN ?_ _ | refine blk_drew ?_ | refine blk_alloc ?_ _)); exact BK840.out⟩, ⟨by repeat (first | (with_reducible first | exact HB.out | apply below_alloc | apply pw_below_drewN | apply below_drew1 | refine below_set ?_ GE840.out) | exact HB.out)⟩⟩
                · rw [if_neg c23] at H
                  exact absurd H (by simp)
              · rw [if_neg c21] at H
                exact absurd H (by simp)
            · rw [if_neg c20] at H
              exact absurd H (by simp)
          · rw [if_neg c19] at H
            have c19b0 : decide (x32_1 < (y846.length : Int)) = false := decide_eq_false c19
            (try (have c19b0_hl8_1 := c19b0; rw [hl8_1] at c19b0_hl8_1))
            clear c19
            have H' := Aside0.mk H
            clear H
            go_wp2
            go_loopg [11] k1 (fun kq v11 w' => ∃ (x8_2 : List Int) (x9_2 : List Int) (x11_2 : Int), v11 = .int .i64 x11_2 ∧ Aside0 (spec_l06Arrays.l1 kq t841 t844 x8_2 x9_2 x11_2 a0_0 l0_1 = some (r1, r2, r3)) ∧ Aside0 (kq ≤ k1) ∧ Aside0 (Kd.S (Kd.slice 2 (Kd.int .i64)) 22 w' w.heap.size (fun k_ => some k_ ≠ ((.slice Ao18 x8_1.length co18) : Value).ownBlock ∧ some k_ ≠ (v850 : Value).ownBlock) v842 t841) ∧ Aside0 (Kd.R (Kd.int .i64) 2 w' w.heap.size (fun k_ => some k_ ≠ (v850 : Value).ownBlock) (.slice Ao18 x8_1.length co18) x8_2) ∧ Aside0 (Kd.R (Kd.int .i64) 2 w' w.heap.size (fun k_ => some k_ ≠ ((.slice Ao18 x8_1.length co18) : Value).ownBlock) v850 x9_2) ∧ Aside0 (w'.heap[gb840]? = some (.cells #[.int .i64 a0_0, (.slice A0_1 l0_1.length c0_1)] 26 (0, 0))) ∧ Aside0 (Below w.heap.size w w'))
            case atStart => exact ⟨(x8_1), (x9_1), (0), (by first | rfl | (simp; done) | (simp [*]; done)), H', ⟨Nat.le_refl _⟩, ⟨by (try simp only [hl8_1]); (with_reducible repeat (first | apply Kd.S_alloc | apply Kd.S_drewN | apply Kd.S_drew)); exact HO_5.out⟩, ⟨by (try simp only [hl8_1]); (with_reducible repeat (first | apply Kd.R_alloc | apply Kd.R_drewN | apply Kd.R_drew)); exact HO_8.out⟩, ⟨by (try simp only [hl8_1]); (with_reducible repeat (first | apply Kd.R_alloc | apply Kd.R_drewN | apply Kd.R_drew)); exact HO_9.out⟩, ⟨by (try simp only [hl8_1]); (with_reducible repeat (first | refine blk_drewN ?_ _ | refine blk_drew ?_ | refine blk_alloc ?_ _)); exact BK840.out⟩, ⟨by repeat (first | (with_reducible first | exact HB.out | apply below_alloc | apply pw_below_drewN | apply below_drew1 | refine below_set ?_ GE840.out) | exact HB.out)⟩⟩
            case round =>
              clear H'
              try clear c1
              try clear c2
              try clear p2
              try clear q2
              try clear hx2
              try clear hf2
              try clear c5
              try clear c5b0
              try clear c5b1
              try clear c6
              try clear c6b0
              try clear c6b1
              try clear p6
              try clear c7
              try clear c8
              try clear c9
              try clear c19
              try clear c19b0
              try clear c20
              try clear c20b0
              try clear c21
              try clear c21b0
              try clear p22
              try clear q22
              try clear hx22
              try clear hf22
              try clear c23
              try clear c23b0
              try clear p24
              try clear q24
              try clear hx24
              try clear hf24
              try clear hcz10_0
              try clear hcz10_1
              try clear hcz8_0
              try clear hcz8_1
              try clear hfz10_0
              try clear hfz10_1
              try clear hfz8_0
              try clear hfz8_1
              try clear hx22_0
              try clear hx24_0
              try clear p2
              try clear p22
              try clear p24
              try clear p6
              try clear q22
              try clear q24
              obtain ⟨x8_2, x9_2, x11_2, rfl, HA, HK2, HO_5, HO_8, HO_9, BK840, HB⟩ := hrel
              have hl8_2 := (Kd.R_reads' HO_8.out).1
              rw [hl8_2] at HO_8
              (try simp only [hl8_2])
              (try simp only [hl8_2] at BK840)
              (try simp only [hl8_2] at HO_5)
              (try simp only [hl8_2] at HO_9)
              cases gk with
              | zero => exact absurd HA.out (by simp [spec_l06Arrays.l1])
              | succ k2 =>
                have H := HA.out
                clear HA
                simp only [spec_l06Arrays.l1] at H
                by_cases c29 : x11_2 < a0_0
                · rw [if_pos c29] at H
                  have c29b0 : decide (x11_2 < a0_0) = true := decide_eq_true c29
                  clear c29
                  have H' := Aside0.mk H
                  clear H
                  have hcz30_0 : wr.cell? ⟨gb840, 0, none⟩ = some (.int .i64 a0_0) := (blk_cell BK840.out 0).trans rfl
                  have hcz30_1 : wr.cell? ⟨gb840, 1, none⟩ = some (.slice A0_1 l0_1.length c0_1) := (blk_cell BK840.out 1).trans rfl
                  have hfz30_0 := blk_frozen BK840.out 0
                  have hfz30_1 := blk_frozen BK840.out 1
                  go_wp2
                  go_loopg [12] k2 (fun kq v12 w' => ∃ (x8_3 : List Int) (x9_3 : List Int) (x12_3 : Int), v12 = .int .i64 x12_3 ∧ Aside0 (spec_l06Arrays.l2 kq t841 t844 x8_3 x9_3 x11_2 x12_3 a0_0 l0_1 = some (r1, r2, r3)) ∧ Aside0 (kq ≤ k2) ∧ Aside0 (Kd.S (Kd.slice 2 (Kd.int .i64)) 22 w' w.heap.size (fun k_ => some k_ ≠ ((.slice Ao18 x8_2.length co18) : Value).ownBlock ∧ some k_ ≠ (v850 : Value).ownBlock) v842 t841) ∧ Aside0 (Kd.R (Kd.int .i64) 2 w' w.heap.size (fun k_ => some k_ ≠ (v850 : Value).ownBlock) (.slice Ao18 x8_2.length co18) x8_3) ∧ Aside0 (Kd.R (Kd.int .i64) 2 w' w.heap.size (fun k_ => some k_ ≠ ((.slice Ao18 x8_2.length co18) : Value).ownBlock) v850 x9_3) ∧ Aside0 (w'.heap[gb840]? = some (.cells #[.int .i64 a0_0, (.slice A0_1 l0_1.length c0_1)] 26 (0, 0))) ∧ Aside0 (Below w.heap.size w w'))
                  case atStart => exact ⟨(x8_2), (x9_2), (0), (by first | rfl | (simp; done) | (simp [*]; done)), H', ⟨Nat.le_refl _⟩, ⟨by (try simp only [hl8_1]); (try simp only [hl8_2]); (with_reducible repeat (first | apply Kd.S_alloc | apply Kd.S_drewN | apply Kd.S_drew)); exact HO_5.out⟩, ⟨by (try simp only [hl8_1]); (try simp only [hl8_2]); (with_reducible repeat (first | apply Kd.R_alloc | apply Kd.R_drewN | apply Kd.R_drew)); exact HO_8.out⟩, ⟨by (try simp only [hl8_1]); (try simp only [hl8_2]); (with_reducible repeat (first | apply Kd.R_alloc | apply Kd.R_drewN | apply Kd.R_drew)); exact HO_9.out⟩, ⟨by (try simp only [hl8_1]); (try simp only [hl8_2]); (with_reducible repeat (first | refine blk_drewN ?_ _ | refine blk_drew ?_ | refine blk_alloc ?_ _)); exact BK840.out⟩, ⟨by repeat (first | (with_reducible first | exact HB.out | apply below_alloc | apply pw_below_drewN | apply below_drew1 | refine below_set ?_ GE840.out) | exact HB.out)⟩⟩
                  case round =>
                    clear H'
                    try clear c1
                    try clear c2
                    try clear p2
                    try clear q2
                    try clear hx2
                    try clear hf2
                    try clear c5
                    try clear c5b0
                    try clear c5b1
                    try clear c6
                    try clear c6b0
                    try clear c6b1
                    try clear p6
                    try clear c7
                    try clear c8
                    try clear c9
                    try clear c19
                    try clear c19b0
                    try clear c20
                    try clear c20b0
                    try clear c21
                    try clear c21b0
                    try clear p22
                    try clear q22
                    try clear hx22
                    try clear hf22
                    try clear c23
                    try clear c23b0
                    try clear p24
                    try clear q24
                    try clear hx24
                    try clear hf24
                    try clear c29
                    try clear c29b0
                    try clear hcz10_0
                    try clear hcz10_1
                    try clear hcz30_0
                    try clear hcz30_1
                    try clear hcz8_0
                    try clear hcz8_1
                    try clear hfz10_0
                    try clear hfz10_1
                    try clear hfz30_0
                    try clear hfz30_1
                    try clear hfz8_0
                    try clear hfz8_1
                    try clear hx22_0
                    try clear hx24_0
                    try clear p2
                    try clear p22
                    try clear p24
                    try clear p6
                    try clear q2
                    try clear q22
                    try clear q24
                    obtain ⟨x8_3, x9_3, x12_3, rfl, HA, HK3, HO_5, HO_8, HO_9, BK840, HB⟩ := hrel
                    have hl8_3 := (Kd.R_reads' HO_8.out).1
                    rw [hl8_3] at HO_8
                    (try simp only [hl8_3])
                    (try simp only [hl8_3] at BK840)
                    (try simp only [hl8_3] at HO_5)
                    (try simp only [hl8_3] at HO_9)
                    cases gk with
                    | zero => exact absurd HA.out (by simp [spec_l06Arrays.l2])
                    | succ k3 =>
                      have H := HA.out
                      clear HA
                      simp only [spec_l06Arrays.l2] at H
                      by_cases c31 : x12_3 < a0_0
                      · rw [if_pos c31] at H
                        have c31b0 : decide (x12_3 < a0_0) = true := decide_eq_true c31
                        clear c31
                        by_cases c32 : 0 ≤ x11_2
                        · rw [if_pos c32] at H
                          have c32b0 : decide (0 ≤ x11_2) = true := decide_eq_true c32
                          clear c32
                          by_cases c33 : x11_2 < (t841.length : Int)
                          · rw [if_pos c33] at H
                            have c33b0 : decide (x11_2 < (t841.length : Int)) = true := decide_eq_true c33
                            (try (have c33b0_hl8_1 := c33b0; rw [hl8_1] at c33b0_hl8_1))
                            (try (have c33b0_hl8_2 := c33b0; rw [hl8_2] at c33b0_hl8_2))
                            (try (have c33b0_hl8_3 := c33b0; rw [hl8_3] at c33b0_hl8_3))
                            clear c33
                            by_cases c34 : 0 ≤ x12_3
                            · rw [if_pos c34] at H
                              have c34b0 : decide (0 ≤ x12_3) = true := decide_eq_true c34
                              clear c34
                              by_cases c35 : x12_3 < ((rd_L1 t841 x11_2).length : Int)
                              · rw [if_pos c35] at H
                                have c35b0 : decide (x12_3 < ((rd_L1 t841 x11_2).length : Int)) = true := decide_eq_true c35
                                (try (have c35b0_hl8_1 := c35b0; rw [hl8_1] at c35b0_hl8_1))
                                (try (have c35b0_hl8_2 := c35b0; rw [hl8_2] at c35b0_hl8_2))
                                (try (have c35b0_hl8_3 := c35b0; rw [hl8_3] at c35b0_hl8_3))
                                clear c35
                                have H' := Aside0.mk H
                                clear H
                                have hcz36_0 : wr.cell? ⟨gb840, 0, none⟩ = some (.int .i64 a0_0) := (blk_cell BK840.out 0).trans rfl
                                have hcz36_1 : wr.cell? ⟨gb840, 1, none⟩ = some (.slice A0_1 l0_1.length c0_1) := (blk_cell BK840.out 1).trans rfl
                                have hfz36_0 := blk_frozen BK840.out 0
                                have hfz36_1 := blk_frozen BK840.out 1
                                obtain ⟨Ao37, co37, eo37⟩ := Kd.S_slice HO_5.out
                                subst eo37
                                have p868 : 0 ≤ (x11_2 : Int) := of_decide_eq_true (by first | (with_reducible assumption) | assumption)
                                have q868 : x11_2 < (t841.length : Int) := of_decide_eq_true (by first | (with_reducible assumption) | assumption)
                                obtain ⟨ad868, A868_0, c868_0, e868, hx868_0, hl868_0, hi868_0⟩ := at_L1 (Kd.S_reads' HO_5.out).2.2 x11_2 p868 q868
                                cases e868
                                obtain ⟨ce868, hce868, hMe868, hcc868⟩ := Kd.S_get HO_5.out [] x11_2 p868 (by first | exact q868 | exact of_decide_eq_true (by first | (with_reducible assumption) | assumption) | (have e_ := (Kd.S_reads' HO_5.out).1; omega))
                                obtain ⟨ve868_0, rfl, ge868_0⟩ := hMe868
                                have hv868_0 := hcc868 0 _ rfl
                                rw [Nat.add_zero, show ((Kd.slice 2 (Kd.int .i64))).sz = 1 from rfl, Nat.mul_one] at hv868_0
                                replace hv868_0 := Option.some.inj (hv868_0.symm.trans hx868_0)
                                rw [hv868_0] at ge868_0
                                have HL868_0 := Aside0.mk (show Kd.R (Kd.int .i64) 2 _ _ _ _ (rd_L1 t841 x11_2) from ge868_0)
                                clear hv868_0 ge868_0
                                clear hcc868 hce868
                                have HR868_0 := Aside0.mk hi868_0
                                have HC868_0 := Aside0.mk hl868_0
                                clear hi868_0 hl868_0
                                replace p868 := eq_true p868
                                replace q868 := eq_true q868
                                have p869 : 0 ≤ (x12_3 : Int) := of_decide_eq_true (by first | (with_reducible assumption) | assumption)
                                have q869 : x12_3 < ((rd_L1 t841 x11_2).length : Int) := of_decide_eq_true (by first | (with_reducible assumption) | assumption)
                                obtain ⟨ad869, e869, hx869_0⟩ := Kd.at_int (by repeat (first | (with_reducible exact HR868_0.out) | (with_reducible refine Kd.C_alloc ?_ _) | (with_reducible refine Kd.C_drewN ?_ _) | (with_reducible refine Kd.C_drew ?_) | exact HR868_0.out)) x12_3 p869 q869
                                cases e869
                                replace p869 := eq_true p869
                                replace q869 := eq_true q869
                                go_wp2
                                go_loopg [14, 15, 16] k3 (fun kq v14 v15 v16 w' => ∃ (x14_4 : Int) (x15_4 : Int) (x16_4 : Int), v14 = .int .i64 x14_4 ∧ v15 = .int .i64 x15_4 ∧ v16 = .int .i64 x16_4 ∧ Aside0 (spec_l06Arrays.l3 kq t841 t844 x8_3 x9_3 x11_2 x12_3 (rd (rd_L1 t841 x11_2) x12_3) x14_4 x15_4 x16_4 a0_0 l0_1 = some (r1, r2, r3)) ∧ Aside0 (kq ≤ k3) ∧ Aside0 (Kd.S (Kd.slice 2 (Kd.int .i64)) 22 w' w.heap.size (fun k_ => some k_ ≠ ((.slice Ao18 x8_3.length co18) : Value).ownBlock ∧ some k_ ≠ (v850 : Value).ownBlock) (.slice (some ad868) t841.length co37) t841) ∧ Aside0 (Kd.R (Kd.int .i64) 2 w' w.heap.size (fun k_ => some k_ ≠ (v850 : Value).ownBlock) (.slice Ao18 x8_3.length co18) x8_3) ∧ Aside0 (Kd.R (Kd.int .i64) 2 w' w.heap.size (fun k_ => some k_ ≠ ((.slice Ao18 x8_3.length co18) : Value).ownBlock) v850 x9_3) ∧ Aside0 (w'.heap[gb840]? = some (.cells #[.int .i64 a0_0, (.slice A0_1 l0_1.length c0_1)] 26 (0, 0))) ∧ Aside0 (Kd.C (Kd.int .i64) w' (some ad869) (rd_L1 t841 x11_2).length (rd_L1 t841 x11_2)) ∧ Aside0 (Below w.heap.size w w'))
                                case atStart => exact ⟨(0), (0), (0), (by first | rfl | (simp; done) | (simp [*]; done)), (by first | rfl | (simp; done) | (simp [*]; done)), (by first | rfl | (simp; done) | (simp [*]; done)), H', ⟨Nat.le_refl _⟩, ⟨by (try simp only [hl8_1]); (try simp only [hl8_2]); (try simp only [hl8_3]); (with_reducible repeat (first | apply Kd.S_alloc | apply Kd.S_drewN | apply Kd.S_drew)); exact HO_5.out⟩, ⟨by (try simp only [hl8_1]); (try simp only [hl8_2]); (try simp only [hl8_3]); (with_reducible repeat (first | apply Kd.R_alloc | apply Kd.R_drewN | apply Kd.R_drew)); exact HO_8.out⟩, ⟨by (try simp only [hl8_1]); (try simp only [hl8_2]); (try simp only [hl8_3]); (with_reducible repeat (first | apply Kd.R_alloc | apply Kd.R_drewN | apply Kd.R_drew)); exact HO_9.out⟩, ⟨by (try simp only [hl8_1]); (try simp only [hl8_2]); (try simp only [hl8_3]); (with_reducible repeat (first | refine blk_drewN ?_ _ | refine blk_drew ?_ | refine blk_alloc ?_ _)); exact BK840.out⟩, ⟨by repeat (first | (with_reducible exact HR868_0.out) | (with_reducible refine Kd.C_alloc ?_ _) | (with_reducible refine Kd.C_drewN ?_ _) | (with_reducible refine Kd.C_drew ?_) | exact HR868_0.out)⟩, ⟨by repeat (first | (with_reducible first | exact HB.out | apply below_alloc | apply pw_below_drewN | apply below_drew1 | refine below_set ?_ GE840.out) | exact HB.out)⟩⟩
                                case round =>
                                  clear H'
                                  try clear c1
                                  try clear c2
                                  try clear p2
                                  try clear q2
                                  try clear hx2
                                  try clear hf2
                                  try clear c3
                                  try clear c5
                                  try clear c5b0
                                  try clear c5b1
                                  try clear c6
                                  try clear c6b0
                                  try clear c6b1
                                  try clear p6
                                  try clear c7
                                  try clear c8
                                  try clear p8
                                  try clear q8
                                  try clear hx8
                                  try clear c9
                                  try clear c19
                                  try clear c19b0
                                  try clear c20
                                  try clear c20b0
                                  try clear c21
                                  try clear c21b0
                                  try clear p22
                                  try clear q22
                                  try clear hx22
                                  try clear hf22
                                  try clear c23
                                  try clear c23b0
                                  try clear p24
                                  try clear q24
                                  try clear hx24
                                  try clear hf24
                                  try clear c29
                                  try clear c29b0
                                  try clear c31
                                  try clear c31b0
                                  try clear c32
                                  try clear c32b0
                                  try clear c33
                                  try clear c33b0
                                  try clear c34
                                  try clear c34b0
                                  try clear c35
                                  try clear c35b0
                                  try clear hcz10_0
                                  try clear hcz10_1
                                  try clear hcz30_0
                                  try clear hcz30_1
                                  try clear hcz36_0
                                  try clear hcz36_1
                                  try clear hcz8_0
                                  try clear hcz8_1
                                  try clear hfz10_0
                                  try clear hfz10_1
                                  try clear hfz30_0
                                  try clear hfz30_1
                                  try clear hfz36_0
                                  try clear hfz36_1
                                  try clear hfz8_0
                                  try clear hfz8_1
                                  try clear hx22_0
                                  try clear hx24_0
                                  try clear hx868_0
                                  try clear hx869_0
                                  try clear p2
                                  try clear p22
                                  try clear p24
                                  try clear p6
                                  try clear p868
                                  try clear p869
                                  try clear q2
                                  try clear q22
                                  try clear q24
                                  try clear q868
                                  try clear q869
                                  obtain ⟨x14_4, x15_4, x16_4, rfl, rfl, rfl, HA, HK4, HO_5, HO_8, HO_9, BK840, HR868_0, HB⟩ := hrel
                                  cases gk with
                                  | zero => exact absurd HA.out (by simp [spec_l06Arrays.l3])
                                  | succ k4 =>
                                    have H := HA.out
                                    clear HA
                                    simp only [spec_l06Arrays.l3] at H
                                    by_cases c38 : x16_4 < a0_0
                                    · rw [if_pos c38] at H
                                      have c38b0 : decide (x16_4 < a0_0) = true := decide_eq_true c38
                                      clear c38
                                      by_cases c39 : 0 ≤ x12_3
                                      · rw [if_pos c39] at H
                                        have c39b0 : decide (0 ≤ x12_3) = true := decide_eq_true c39
                                        clear c39
                                        by_cases c40 : x12_3 < (l0_1.length : Int)
                                        · rw [if_pos c40] at H
                                          have c40b0 : decide (x12_3 < (l0_1.length : Int)) = true := decide_eq_true c40
                                          (try (have c40b0_hl8_1 := c40b0; rw [hl8_1] at c40b0_hl8_1))
                                          (try (have c40b0_hl8_2 := c40b0; rw [hl8_2] at c40b0_hl8_2))
                                          (try (have c40b0_hl8_3 := c40b0; rw [hl8_3] at c40b0_hl8_3))
                                          clear c40
                                          obtain ⟨ji41, hji41⟩ : ∃ j_ : Int, (IntKind.u64.wrap (x16_4)) = j_ := ⟨_, rfl⟩
                                          replace H : (if 0 ≤ (ji41) then (if (Go.bits .and .i64 (shr .i64 (rd l0_1 x12_3) (ji41)) 1) = 0 then (spec_l06Arrays.l3 k4 t841 t844 x8_3 x9_3 x11_2 x12_3 (rd (rd_L1 t841 x11_2) x12_3) x14_4 x15_4 (wrap64 (x16_4 + 1)) a0_0 l0_1) else (if 0 ≤ x11_2 then (if x11_2 < (t841.length : Int) then (if 0 ≤ x16_4 then (if x16_4 < ((rd_L1 t841 x11_2).length : Int) then (if (rd (rd_L1 t841 x11_2) x16_4) = (wrap64 ((rd (rd_L1 t841 x11_2) x12_3) + 1)) then (if (rd (rd_L1 t841 x11_2) x16_4) = (wrap64 ((rd (rd_L1 t841 x11_2) x12_3) - 1)) then (spec_l06Arrays.l3 k4 t841 t844 x8_3 x9_3 x11_2 x12_3 (rd (rd_L1 t841 x11_2) x12_3) (wrap64 (x14_4 + 1)) (wrap64 (x15_4 + 1)) (wrap64 (x16_4 + 1)) a0_0 l0_1) else (spec_l06Arrays.l3 k4 t841 t844 x8_3 x9_3 x11_2 x12_3 (rd (rd_L1 t841 x11_2) x12_3) (wrap64 (x14_4 + 1)) x15_4 (wrap64 (x16_4 + 1)) a0_0 l0_1)) else (if (rd (rd_L1 t841 x11_2) x16_4) = (wrap64 ((rd (rd_L1 t841 x11_2) x12_3) - 1)) then (spec_l06Arrays.l3 k4 t841 t844 x8_3 x9_3 x11_2 x12_3 (rd (rd_L1 t841 x11_2) x12_3) x14_4 (wrap64 (x15_4 + 1)) (wrap64 (x16_4 + 1)) a0_0 l0_1) else (spec_l06Arrays.l3 k4 t841 t844 x8_3 x9_3 x11_2 x12_3 (rd (rd_L1 t841 x11_2) x12_3) x14_4 x15_4 (wrap64 (x16_4 + 1)) a0_0 l0_1))) else (none)) else (none)) else (none)) else (none))) else (none)) = some (r1, r2, r3) := by first | (rw [hji41] at H; exact H) | (simp only [hji41] at H ⊢; exact H)
                                          by_cases c42 : 0 ≤ (ji41)
                                          · rw [if_pos c42] at H
                                            have c42b0 := eq_true c42
                                            have c42b1 : decide (0 ≤ (ji41)) = true := decide_eq_true c42
                                            clear c42
                                            obtain ⟨ji43, hji43⟩ : ∃ j_ : Int, (shr .i64 (rd l0_1 x12_3) (ji41)) = j_ := ⟨_, rfl⟩
                                            replace H : (if (Go.bits .and .i64 (ji43) 1) = 0 then (spec_l06Arrays.l3 k4 t841 t844 x8_3 x9_3 x11_2 x12_3 (rd (rd_L1 t841 x11_2) x12_3) x14_4 x15_4 (wrap64 (x16_4 + 1)) a0_0 l0_1) else (if 0 ≤ x11_2 then (if x11_2 < (t841.length : Int) then (if 0 ≤ x16_4 then (if x16_4 < ((rd_L1 t841 x11_2).length : Int) then (if (rd (rd_L1 t841 x11_2) x16_4) = (wrap64 ((rd (rd_L1 t841 x11_2) x12_3) + 1)) then (if (rd (rd_L1 t841 x11_2) x16_4) = (wrap64 ((rd (rd_L1 t841 x11_2) x12_3) - 1)) then (spec_l06Arrays.l3 k4 t841 t844 x8_3 x9_3 x11_2 x12_3 (rd (rd_L1 t841 x11_2) x12_3) (wrap64 (x14_4 + 1)) (wrap64 (x15_4 + 1)) (wrap64 (x16_4 + 1)) a0_0 l0_1) else (spec_l06Arrays.l3 k4 t841 t844 x8_3 x9_3 x11_2 x12_3 (rd (rd_L1 t841 x11_2) x12_3) (wrap64 (x14_4 + 1)) x15_4 (wrap64 (x16_4 + 1)) a0_0 l0_1)) else (if (rd (rd_L1 t841 x11_2) x16_4) = (wrap64 ((rd (rd_L1 t841 x11_2) x12_3) - 1)) then (spec_l06Arrays.l3 k4 t841 t844 x8_3 x9_3 x11_2 x12_3 (rd (rd_L1 t841 x11_2) x12_3) x14_4 (wrap64 (x15_4 + 1)) (wrap64 (x16_4 + 1)) a0_0 l0_1) else (spec_l06Arrays.l3 k4 t841 t844 x8_3 x9_3 x11_2 x12_3 (rd (rd_L1 t841 x11_2) x12_3) x14_4 x15_4 (wrap64 (x16_4 + 1)) a0_0 l0_1))) else (none)) else (none)) else (none)) else (none))) = some (r1, r2, r3) := by first | (rw [hji43] at H; exact H) | (simp only [hji43] at H ⊢; exact H)
                                            have hji43_ : ((rd l0_1 x12_3) / 2 ^ min (ji41).toNat 64) = ji43 := hji43
                                            have hji43z : (ji41) ≤ 64 → ((rd l0_1 x12_3) / 2 ^ (ji41).toNat) = ji43 := shr_small hji43
                                            by_cases c44 : (Go.bits .and .i64 (ji43) 1) = 0
                                            · rw [if_pos c44] at H
                                              have c44b0 : ((Go.bits .and .i64 (ji43) 1) == 0) = true := beq_iff_eq.mpr c44
                                              have c44b1 : ((Go.bits .and .i64 (ji43) 1) != 0) = false := bne_eq_false_iff_eq.mpr c44
                                              clear c44
                                              have H' := Aside0.mk H
                                              clear H
                                              have hcz45_0 : wr.cell? ⟨gb840, 0, none⟩ = some (.int .i64 a0_0) := (blk_cell BK840.out 0).trans rfl
                                              have hcz45_1 : wr.cell? ⟨gb840, 1, none⟩ = some (.slice A0_1 l0_1.length c0_1) := (blk_cell BK840.out 1).trans rfl
                                              have hfz45_0 := blk_frozen BK840.out 0
                                              have hfz45_1 := blk_frozen BK840.out 1
                                              have p877 : 0 ≤ (x12_3 : Int) := of_decide_eq_true (by first | (with_reducible assumption) | assumption)
                                              have q877 : x12_3 < (l0_1.length : Int) := of_decide_eq_true (by first | (with_reducible assumption) | assumption)
                                              obtain ⟨ad877, e877, hx877_0⟩ := Kd.at_int HR0_1.out x12_3 p877 q877
                                              cases e877
                                              (try replace hx877_0 := (HB.out.cell (World.block_lt_of_cell? w _ hx877_0)).trans hx877_0)
                                              replace p877 := eq_true p877
                                              replace q877 := eq_true q877
                                              go_wp2
                                              go_roundg k4
                                              case measure => have := HK1.out; have := HK2.out; have := HK3.out; have := HK4.out; omega
                                              case rel => exact ⟨(x14_4), (x15_4), (wrap64 (x16_4 + 1)), (by first | rfl | (simp; done) | (simp [*]; done)), (by first | rfl | (simp; done) | (simp [*]; done)), (by first | rfl | (simp; done) | (simp [*]; done)), H', ⟨by have := HK1.out; have := HK2.out; have := HK3.out; have := HK4.out; omega⟩, ⟨by (try simp only [hl8_1]); (try simp only [hl8_2]); (try simp only [hl8_3]); (with_reducible repeat (first | apply Kd.S_alloc | apply Kd.S_drewN | apply Kd.S_drew)); exact HO_5.out⟩, ⟨by (try simp only [hl8_1]); (try simp only [hl8_2]); (try simp only [hl8_3]); (with_reducible repeat (first | apply Kd.R_alloc | apply Kd.R_drewN | apply Kd.R_drew)); exact HO_8.out⟩, ⟨by (try simp only [hl8_1]); (try simp only [hl8_2]); (try simp only [hl8_3]); (with_reducible repeat (first | apply Kd.R_alloc | apply Kd.R_drewN | apply Kd.R_drew)); exact HO_9.out⟩, ⟨by (try simp only [hl8_1]); (try simp only [hl8_2]); (try simp only [hl8_3]); (with_reducible repeat (first | refine blk_drewN ?_ _ | refine blk_drew ?_ | refine blk_alloc ?_ _)); exact BK840.out⟩, ⟨by repeat (first | (with_reducible exact HR868_0.out) | (with_reducible refine Kd.C_alloc ?_ _) | (with_reducible refine Kd.C_drewN ?_ _) | (with_reducible refine Kd.C_drew ?_) | exact HR868_0.out)⟩, ⟨by repeat (first | (with_reducible first | exact HB.out | apply below_alloc | apply pw_below_drewN | apply below_drew1 | refine below_set ?_ GE840.out) | exact HB.out)⟩⟩
                                            · rw [if_neg c44] at H
                                              have c44b0 : ((Go.bits .and .i64 (ji43) 1) == 0) = false := beq_eq_false_iff_ne.mpr c44
                                              have c44b1 : ((Go.bits .and .i64 (ji43) 1) != 0) = true := bne_iff_ne.mpr c44
                                              by_cases c46 : 0 ≤ x11_2
                                              · rw [if_pos c46] at H
                                                have c46b0 : decide (0 ≤ x11_2) = true := decide_eq_true c46
                                                clear c46
                                                by_cases c47 : x11_2 < (t841.length : Int)
                                                · rw [if_pos c47] at H
                                                  have c47b0 : decide (x11_2 < (t841.length : Int)) = true := decide_eq_true c47
                                                  (try (have c47b0_hl8_1 := c47b0; rw [hl8_1] at c47b0_hl8_1))
                                                  (try (have c47b0_hl8_2 := c47b0; rw [hl8_2] at c47b0_hl8_2))
                                                  (try (have c47b0_hl8_3 := c47b0; rw [hl8_3] at c47b0_hl8_3))
                                                  clear c47
                                                  by_cases c48 : 0 ≤ x16_4
                                                  · rw [if_pos c48] at H
                                                    have c48b0 : decide (0 ≤ x16_4) = true := decide_eq_true c48
                                                    clear c48
                                                    by_cases c49 : x16_4 < ((rd_L1 t841 x11_2).length : Int)
                                                    · rw [if_pos c49] at H
                                                      have c49b0 : decide (x16_4 < ((rd_L1 t841 x11_2).length : Int)) = true := decide_eq_true c49
                                                      (try (have c49b0_hl8_1 := c49b0; rw [hl8_1] at c49b0_hl8_1))
                                                      (try (have c49b0_hl8_2 := c49b0; rw [hl8_2] at c49b0_hl8_2))
                                                      (try (have c49b0_hl8_3 := c49b0; rw [hl8_3] at c49b0_hl8_3))
                                                      clear c49
                                                      by_cases c50 : (rd (rd_L1 t841 x11_2) x16_4) = (wrap64 ((rd (rd_L1 t841 x11_2) x12_3) + 1))
                                                      · rw [if_pos c50] at H
                                                        have c50b0 : ((rd (rd_L1 t841 x11_2) x16_4) == (wrap64 ((rd (rd_L1 t841 x11_2) x12_3) + 1))) = true := beq_iff_eq.mpr c50
                                                        have c50b1 : ((rd (rd_L1 t841 x11_2) x16_4) != (wrap64 ((rd (rd_L1 t841 x11_2) x12_3) + 1))) = false := bne_eq_false_iff_eq.mpr c50
                                                        clear c50
                                                        by_cases c51 : (rd (rd_L1 t841 x11_2) x16_4) = (wrap64 ((rd (rd_L1 t841 x11_2) x12_3) - 1))
                                                        · rw [if_pos c51] at H
                                                          have c51b0 : ((rd (rd_L1 t841 x11_2) x16_4) == (wrap64 ((rd (rd_L1 t841 x11_2) x12_3) - 1))) = true := beq_iff_eq.mpr c51
                                                          have c51b1 : ((rd (rd_L1 t841 x11_2) x16_4) != (wrap64 ((rd (rd_L1 t841 x11_2) x12_3) - 1))) = false := bne_eq_false_iff_eq.mpr c51
                                                          clear c51
                                                          have H' := Aside0.mk H
                                                          clear H
                                                          have hcz52_0 : wr.cell? ⟨gb840, 0, none⟩ = some (.int .i64 a0_0) := (blk_cell BK840.out 0).trans rfl
                                                          have hcz52_1 : wr.cell? ⟨gb840, 1, none⟩ = some (.slice A0_1 l0_1.length c0_1) := (blk_cell BK840.out 1).trans rfl
                                                          have hfz52_0 := blk_frozen BK840.out 0
                                                          have hfz52_1 := blk_frozen BK840.out 1
                                                          have p877 : 0 ≤ (x12_3 : Int) := of_decide_eq_true (by first | (with_reducible assumption) | assumption)
                                                          have q877 : x12_3 < (l0_1.length : Int) := of_decide_eq_true (by first | (with_reducible assumption) | assumption)
                                                          obtain ⟨ad877, e877, hx877_0⟩ := Kd.at_int HR0_1.out x12_3 p877 q877
                                                          cases e877
                                                          (try replace hx877_0 := (HB.out.cell (World.block_lt_of_cell? w _ hx877_0)).trans hx877_0)
                                                          replace p877 := eq_true p877
                                                          replace q877 := eq_true q877
                                                          have p878 : 0 ≤ (x11_2 : Int) := of_decide_eq_true (by first | (with_reducible assumption) | assumption)
                                                          have q878 : x11_2 < (t841.length : Int) := of_decide_eq_true (by first | (with_reducible assumption) | assumption)
                                                          obtain ⟨ad878, A878_0, c878_0, e878, hx878_0, hl878_0, hi878_0⟩ := at_L1 (Kd.S_reads' HO_5.out).2.2 x11_2 p878 q878
                                                          obtain rfl : ad868 = ad878 := (by injection e878)
                                                          obtain ⟨ce878, hce878, hMe878, hcc878⟩ := Kd.S_get HO_5.out [] x11_2 p878 (by first | exact q878 | exact of_decide_eq_true (by first | (with_reducible assumption) | assumption) | (have e_ := (Kd.S_reads' HO_5.out).1; omega))
                                                          obtain ⟨ve878_0, rfl, ge878_0⟩ := hMe878
                                                          have hv878_0 := hcc878 0 _ rfl
                                                          rw [Nat.add_zero, show ((Kd.slice 2 (Kd.int .i64))).sz = 1 from rfl, Nat.mul_one] at hv878_0
                                                          replace hv878_0 := Option.some.inj (hv878_0.symm.trans hx878_0)
                                                          rw [hv878_0] at ge878_0
                                                          have HL878_0 := Aside0.mk (show Kd.R (Kd.int .i64) 2 _ _ _ _ (rd_L1 t841 x11_2) from ge878_0)
                                                          clear hv878_0 ge878_0
                                                          clear hcc878 hce878
                                                          have HR878_0 := Aside0.mk hi878_0
                                                          have HC878_0 := Aside0.mk hl878_0
                                                          clear hi878_0 hl878_0
                                                          replace p878 := eq_true p878
                                                          replace q878 := eq_true q878
                                                          have p879 : 0 ≤ (x16_4 : Int) := of_decide_eq_true (by first | (with_reducible assumption) | assumption)
                                                          have q879 : x16_4 < ((rd_L1 t841 x11_2).length : Int) := of_decide_eq_true (by first | (with_reducible assumption) | assumption)
                                                          obtain ⟨ad879, e879, hx879_0⟩ := Kd.at_int (by repeat (first | (with_reducible exact HR878_0.out) | (with_reducible refine Kd.C_alloc ?_ _) | (with_reducible refine Kd.C_drewN ?_ _) | (with_reducible refine Kd.C_drew ?_) | exact HR878_0.out)) x16_4 p879 q879
                                                          cases e879
                                                          replace p879 := eq_true p879
                                                          replace q879 := eq_true q879
                                                          have p880 : 0 ≤ (x11_2 : Int) := of_decide_eq_true (by first | (with_reducible assumption) | assumption)
                                                          have q880 : x11_2 < (t841.length : Int) := of_decide_eq_true (by first | (with_reducible assumption) | assumption)
                                                          obtain ⟨ad880, A880_0, c880_0, e880, hx880_0, hl880_0, hi880_0⟩ := at_L1 (Kd.S_reads' HO_5.out).2.2 x11_2 p880 q880
                                                          obtain rfl : ad868 = ad880 := (by injection e880)
                                                          obtain ⟨ce880, hce880, hMe880, hcc880⟩ := Kd.S_get HO_5.out [] x11_2 p880 (by first | exact q880 | exact of_decide_eq_true (by first | (with_reducible assumption) | assumption) | (have e_ := (Kd.S_reads' HO_5.out).1; omega))
                                                          obtain ⟨ve880_0, rfl, ge880_0⟩ := hMe880
                                                          have hv880_0 := hcc880 0 _ rfl
                                                          rw [Nat.add_zero, show ((Kd.slice 2 (Kd.int .i64))).sz = 1 from rfl, Nat.mul_one] at hv880_0
                                                          replace hv880_0 := Option.some.inj (hv880_0.symm.trans hx880_0)
                                                          rw [hv880_0] at ge880_0
                                                          have HL880_0 := Aside0.mk (show Kd.R (Kd.int .i64) 2 _ _ _ _ (rd_L1 t841 x11_2) from ge880_0)
                                                          clear hv880_0 ge880_0
                                                          clear hcc880 hce880
                                                          have HR880_0 := Aside0.mk hi880_0
                                                          have HC880_0 := Aside0.mk hl880_0
                                                          clear hi880_0 hl880_0
                                                          replace p880 := eq_true p880
                                                          replace q880 := eq_true q880
                                                          have ea_ := Option.some.inj (hx878_0.symm.trans hx880_0)
                                                          injection ea_ with ea_ en_ ec_
                                                          subst ea_
                                                          subst ec_
                                                          clear en_
                                                          have p881 : 0 ≤ (x16_4 : Int) := of_decide_eq_true (by first | (with_reducible assumption) | assumption)
                                                          have q881 : x16_4 < ((rd_L1 t841 x11_2).length : Int) := of_decide_eq_true (by first | (with_reducible assumption) | assumption)
                                                          obtain ⟨ad881, e881, hx881_0⟩ := Kd.at_int (by repeat (first | (with_reducible exact HR880_0.out) | (with_reducible refine Kd.C_alloc ?_ _) | (with_reducible refine Kd.C_drewN ?_ _) | (with_reducible refine Kd.C_drew ?_) | exact HR880_0.out)) x16_4 p881 q881
                                                          cases e881
                                                          replace p881 := eq_true p881
                                                          replace q881 := eq_true q881
                                                          go_wp2
                                                          go_roundg k4
                                                          case measure => have := HK1.out; have := HK2.out; have := HK3.out; have := HK4.out; omega
                                                          case rel => exact ⟨(wrap64 (x14_4 + 1)), (wrap64 (x15_4 + 1)), (wrap64 (x16_4 + 1)), (by first | rfl | (simp; done) | (simp [*]; done)), (by first | rfl | (simp; done) | (simp [*]; done)), (by first | rfl | (simp; done) | (simp [*]; done)), H', ⟨by have := HK1.out; have := HK2.out; have := HK3.out; have := HK4.out; omega⟩, ⟨by (try simp only [hl8_1]); (try simp only [hl8_2]); (try simp only [hl8_3]); (with_reducible repeat (first | apply Kd.S_alloc | apply Kd.S_drewN | apply Kd.S_drew)); exact HO_5.out⟩, ⟨by (try simp only [hl8_1]); (try simp only [hl8_2]); (try simp only [hl8_3]); (with_reducible repeat (first | apply Kd.R_alloc | apply Kd.R_drewN | apply Kd.R_drew)); exact HO_8.out⟩, ⟨by (try simp only [hl8_1]); (try simp only [hl8_2]); (try simp only [hl8_3]); (with_reducible repeat (first | apply Kd.R_alloc | apply Kd.R_drewN | apply Kd.R_drew)); exact HO_9.out⟩, ⟨by (try simp only [hl8_1]); (try simp only [hl8_2]); (try simp only [hl8_3]); (with_reducible repeat (first | refine blk_drewN ?_ _ | refine blk_drew ?_ | refine blk_alloc ?_ _)); exact BK840.out⟩, ⟨by repeat (first | (with_reducible exact HR868_0.out) | (with_reducible refine Kd.C_alloc ?_ _) | (with_reducible refine Kd.C_drewN ?_ _) | (with_reducible refine Kd.C_drew ?_) | exact HR868_0.out)⟩, ⟨by repeat (first | (with_reducible first | exact HB.out | apply below_alloc | apply pw_below_drewN | apply below_drew1 | refine below_set ?_ GE840.out) | exact HB.out)⟩⟩
                                                        · rw [if_neg c51] at H
                                                          have c51b0 : ((rd (rd_L1 t841 x11_2) x16_4) == (wrap64 ((rd (rd_L1 t841 x11_2) x12_3) - 1))) = false := beq_eq_false_iff_ne.mpr c51
                                                          have c51b1 : ((rd (rd_L1 t841 x11_2) x16_4) != (wrap64 ((rd (rd_L1 t841 x11_2) x12_3) - 1))) = true := bne_iff_ne.mpr c51
                                                          have H' := Aside0.mk H
                                                          clear H
                                                          have hcz53_0 : wr.cell? ⟨gb840, 0, none⟩ = some (.int .i64 a0_0) := (blk_cell BK840.out 0).trans rfl
                                                          have hcz53_1 : wr.cell? ⟨gb840, 1, none⟩ = some (.slice A0_1 l0_1.length c0_1) := (blk_cell BK840.out 1).trans rfl
                                                          have hfz53_0 := blk_frozen BK840.out 0
                                                          have hfz53_1 := blk_frozen BK840.out 1
                                                          have p877 : 0 ≤ (x12_3 : Int) := of_decide_eq_true (by first | (with_reducible assumption) | assumption)
                                                          have q877 : x12_3 < (l0_1.length : Int) := of_decide_eq_true (by first | (with_reducible assumption) | assumption)
                                                          obtain ⟨ad877, e877, hx877_0⟩ := Kd.at_int HR0_1.out x12_3 p877 q877
                                                          cases e877
                                                          (try replace hx877_0 := (HB.out.cell (World.block_lt_of_cell? w _ hx877_0)).trans hx877_0)
                                                          replace p877 := eq_true p877
                                                          replace q877 := eq_true q877
                                                          have p878 : 0 ≤ (x11_2 : Int) := of_decide_eq_true (by first | (with_reducible assumption) | assumption)
                                                          have q878 : x11_2 < (t841.length : Int) := of_decide_eq_true (by first | (with_reducible assumption) | assumption)
                                                          obtain ⟨ad878, A878_0, c878_0, e878, hx878_0, hl878_0, hi878_0⟩ := at_L1 (Kd.S_reads' HO_5.out).2.2 x11_2 p878 q878
                                                          obtain rfl : ad868 = ad878 := (by injection e878)
                                                          obtain ⟨ce878, hce878, hMe878, hcc878⟩ := Kd.S_get HO_5.out [] x11_2 p878 (by first | exact q878 | exact of_decide_eq_true (by first | (with_reducible assumption) | assumption) | (have e_ := (Kd.S_reads' HO_5.out).1; omega))
                                                          obtain ⟨ve878_0, rfl, ge878_0⟩ := hMe878
                                                          have hv878_0 := hcc878 0 _ rfl
                                                          rw [Nat.add_zero, show ((Kd.slice 2 (Kd.int .i64))).sz = 1 from rfl, Nat.mul_one] at hv878_0
                                                          replace hv878_0 := Option.some.inj (hv878_0.symm.trans hx878_0)
                                                          rw [hv878_0] at ge878_0
                                                          have HL878_0 := Aside0.mk (show Kd.R (Kd.int .i64) 2 _ _ _ _ (rd_L1 t841 x11_2) from ge878_0)
                                                          clear hv878_0 ge878_0
                                                          clear hcc878 hce878
                                                          have HR878_0 := Aside0.mk hi878_0
                                                          have HC878_0 := Aside0.mk hl878_0
                                                          clear hi878_0 hl878_0
                                                          replace p878 := eq_true p878
                                                          replace q878 := eq_true q878
                                                          have p879 : 0 ≤ (x16_4 : Int) := of_decide_eq_true (by first | (with_reducible assumption) | assumption)
                                                          have q879 : x16_4 < ((rd_L1 t841 x11_2).length : Int) := of_decide_eq_true (by first | (with_reducible assumption) | assumption)
                                                          obtain ⟨ad879, e879, hx879_0⟩ := Kd.at_int (by repeat (first | (with_reducible exact HR878_0.out) | (with_reducible refine Kd.C_alloc ?_ _) | (with_reducible refine Kd.C_drewN ?_ _) | (with_reducible refine Kd.C_drew ?_) | exact HR878_0.out)) x16_4 p879 q879
                                                          cases e879
                                                          replace p879 := eq_true p879
                                                          replace q879 := eq_true q879
                                                          have p880 : 0 ≤ (x11_2 : Int) := of_decide_eq_true (by first | (with_reducible assumption) | assumption)
                                                          have q880 : x11_2 < (t841.length : Int) := of_decide_eq_true (by first | (with_reducible assumption) | assumption)
                                                          obtain ⟨ad880, A880_0, c880_0, e880, hx880_0, hl880_0, hi880_0⟩ := at_L1 (Kd.S_reads' HO_5.out).2.2 x11_2 p880 q880
                                                          obtain rfl : ad868 = ad880 := (by injection e880)
                                                          obtain ⟨ce880, hce880, hMe880, hcc880⟩ := Kd.S_get HO_5.out [] x11_2 p880 (by first | exact q880 | exact of_decide_eq_true (by first | (with_reducible assumption) | assumption) | (have e_ := (Kd.S_reads' HO_5.out).1; omega))
                                                          obtain ⟨ve880_0, rfl, ge880_0⟩ := hMe880
                                                          have hv880_0 := hcc880 0 _ rfl
                                                          rw [Nat.add_zero, show ((Kd.slice 2 (Kd.int .i64))).sz = 1 from rfl, Nat.mul_one] at hv880_0
                                                          replace hv880_0 := Option.some.inj (hv880_0.symm.trans hx880_0)
                                                          rw [hv880_0] at ge880_0
                                                          have HL880_0 := Aside0.mk (show Kd.R (Kd.int .i64) 2 _ _ _ _ (rd_L1 t841 x11_2) from ge880_0)
                                                          clear hv880_0 ge880_0
                                                          clear hcc880 hce880
                                                          have HR880_0 := Aside0.mk hi880_0
                                                          have HC880_0 := Aside0.mk hl880_0
                                                          clear hi880_0 hl880_0
                                                          replace p880 := eq_true p880
                                                          replace q880 := eq_true q880
                                                          have ea_ := Option.some.inj (hx878_0.symm.trans hx880_0)
                                                          injection ea_ with ea_ en_ ec_
                                                          subst ea_
                                                          subst ec_
                                                          clear en_
                                                          have p881 : 0 ≤ (x16_4 : Int) := of_decide_eq_true (by first | (with_reducible assumption) | assumption)
                                                          have q881 : x16_4 < ((rd_L1 t841 x11_2).length : Int) := of_decide_eq_true (by first | (with_reducible assumption) | assumption)
                                                          obtain ⟨ad881, e881, hx881_0⟩ := Kd.at_int (by repeat (first | (with_reducible exact HR880_0.out) | (with_reducible refine Kd.C_alloc ?_ _) | (with_reducible refine Kd.C_drewN ?_ _) | (with_reducible refine Kd.C_drew ?_) | exact HR880_0.out)) x16_4 p881 q881
                                                          cases e881
                                                          replace p881 := eq_true p881
                                                          replace q881 := eq_true q881
                                                          go_wp2
                                                          go_roundg k4
                                                          case measure => have := HK1.out; have := HK2.out; have := HK3.out; have := HK4.out; omega
                                                          case rel => exact ⟨(wrap64 (x14_4 + 1)), (x15_4), (wrap64 (x16_4 + 1)), (by first | rfl | (simp; done) | (simp [*]; done)), (by first | rfl | (simp; done) | (simp [*]; done)), (by first | rfl | (simp; done) | (simp [*]; done)), H', ⟨by have := HK1.out; have := HK2.out; have := HK3.out; have := HK4.out; omega⟩, ⟨by (try simp only [hl8_1]); (try simp only [hl8_2]); (try simp only [hl8_3]); (with_reducible repeat (first | apply Kd.S_alloc | apply Kd.S_drewN | apply Kd.S_drew)); exact HO_5.out⟩, ⟨by (try simp only [hl8_1]); (try simp only [hl8_2]); (try simp only [hl8_3]); (with_reducible repeat (first | apply Kd.R_alloc | apply Kd.R_drewN | apply Kd.R_drew)); exact HO_8.out⟩, ⟨by (try simp only [hl8_1]); (try simp only [hl8_2]); (try simp only [hl8_3]); (with_reducible repeat (first | apply Kd.R_alloc | apply Kd.R_drewN | apply Kd.R_drew)); exact HO_9.out⟩, ⟨by (try simp only [hl8_1]); (try simp only [hl8_2]); (try simp only [hl8_3]); (with_reducible repeat (first | refine blk_drewN ?_ _ | refine blk_drew ?_ | refine blk_alloc ?_ _)); exact BK840.out⟩, ⟨by repeat (first | (with_reducible exact HR868_0.out) | (with_reducible refine Kd.C_alloc ?_ _) | (with_reducible refine Kd.C_drewN ?_ _) | (with_reducible refine Kd.C_drew ?_) | exact HR868_0.out)⟩, ⟨by repeat (first | (with_reducible first | exact HB.out | apply below_alloc | apply pw_below_drewN | apply below_drew1 | refine below_set ?_ GE840.out) | exact HB.out)⟩⟩
                                                      · rw [if_neg c50] at H
                                                        have c50b0 : ((rd (rd_L1 t841 x11_2) x16_4) == (wrap64 ((rd (rd_L1 t841 x11_2) x12_3) + 1))) = false := beq_eq_false_iff_ne.mpr c50
                                                        have c50b1 : ((rd (rd_L1 t841 x11_2) x16_4) != (wrap64 ((rd (rd_L1 t841 x11_2) x12_3) + 1))) = true := bne_iff_ne.mpr c50
                                                        by_cases c54 : (rd (rd_L1 t841 x11_2) x16_4) = (wrap64 ((rd (rd_L1 t841 x11_2) x12_3) - 1))
                                                        · rw [if_pos c54] at H
                                                          have c54b0 : ((rd (rd_L1 t841 x11_2) x16_4) == (wrap64 ((rd (rd_L1 t841 x11_2) x12_3) - 1))) = true := beq_iff_eq.mpr c54
                                                          have c54b1 : ((rd (rd_L1 t841 x11_2) x16_4) != (wrap64 ((rd (rd_L1 t841 x11_2) x12_3) - 1))) = false := bne_eq_false_iff_eq.mpr c54
                                                          clear c54
                                                          have H' := Aside0.mk H
                                                          clear H
                                                          have hcz55_0 : wr.cell? ⟨gb840, 0, none⟩ = some (.int .i64 a0_0) := (blk_cell BK840.out 0).trans rfl
                                                          have hcz55_1 : wr.cell? ⟨gb840, 1, none⟩ = some (.slice A0_1 l0_1.length c0_1) := (blk_cell BK840.out 1).trans rfl
                                                          have hfz55_0 := blk_frozen BK840.out 0
                                                          have hfz55_1 := blk_frozen BK840.out 1
                                                          have p877 : 0 ≤ (x12_3 : Int) := of_decide_eq_true (by first | (with_reducible assumption) | assumption)
                                                          have q877 : x12_3 < (l0_1.length : Int) := of_decide_eq_true (by first | (with_reducible assumption) | assumption)
                                                          obtain ⟨ad877, e877, hx877_0⟩ := Kd.at_int HR0_1.out x12_3 p877 q877
                                                          cases e877
                                                          (try replace hx877_0 := (HB.out.cell (World.block_lt_of_cell? w _ hx877_0)).trans hx877_0)
                                                          replace p877 := eq_true p877
                                                          replace q877 := eq_true q877
                                                          have p878 : 0 ≤ (x11_2 : Int) := of_decide_eq_true (by first | (with_reducible assumption) | assumption)
                                                          have q878 : x11_2 < (t841.length : Int) := of_decide_eq_true (by first | (with_reducible assumption) | assumption)
                                                          obtain ⟨ad878, A878_0, c878_0, e878, hx878_0, hl878_0, hi878_0⟩ := at_L1 (Kd.S_reads' HO_5.out).2.2 x11_2 p878 q878
                                                          obtain rfl : ad868 = ad878 := (by injection e878)
                                                          obtain ⟨ce878, hce878, hMe878, hcc878⟩ := Kd.S_get HO_5.out [] x11_2 p878 (by first | exact q878 | exact of_decide_eq_true (by first | (with_reducible assumption) | assumption) | (have e_ := (Kd.S_reads' HO_5.out).1; omega))
                                                          obtain ⟨ve878_0, rfl, ge878_0⟩ := hMe878
                                                          have hv878_0 := hcc878 0 _ rfl
                                                          rw [Nat.add_zero, show ((Kd.slice 2 (Kd.int .i64))).sz = 1 from rfl, Nat.mul_one] at hv878_0
                                                          replace hv878_0 := Option.some.inj (hv878_0.symm.trans hx878_0)
                                                          rw [hv878_0] at ge878_0
                                                          have HL878_0 := Aside0.mk (show Kd.R (Kd.int .i64) 2 _ _ _ _ (rd_L1 t841 x11_2) from ge878_0)
                                                          clear hv878_0 ge878_0
                                                          clear hcc878 hce878
                                                          have HR878_0 := Aside0.mk hi878_0
                                                          have HC878_0 := Aside0.mk hl878_0
                                                          clear hi878_0 hl878_0
                                                          replace p878 := eq_true p878
                                                          replace q878 := eq_true q878
                                                          have p879 : 0 ≤ (x16_4 : Int) := of_decide_eq_true (by first | (with_reducible assumption) | assumption)
                                                          have q879 : x16_4 < ((rd_L1 t841 x11_2).length : Int) := of_decide_eq_true (by first | (with_reducible assumption) | assumption)
                                                          obtain ⟨ad879, e879, hx879_0⟩ := Kd.at_int (by repeat (first | (with_reducible exact HR878_0.out) | (with_reducible refine Kd.C_alloc ?_ _) | (with_reducible refine Kd.C_drewN ?_ _) | (with_reducible refine Kd.C_drew ?_) | exact HR878_0.out)) x16_4 p879 q879
                                                          cases e879
                                                          replace p879 := eq_true p879
                                                          replace q879 := eq_true q879
                                                          have p882 : 0 ≤ (x11_2 : Int) := of_decide_eq_true (by first | (with_reducible assumption) | assumption)
                                                          have q882 : x11_2 < (t841.length : Int) := of_decide_eq_true (by first | (with_reducible assumption) | assumption)
                                                          obtain ⟨ad882, A882_0, c882_0, e882, hx882_0, hl882_0, hi882_0⟩ := at_L1 (Kd.S_reads' HO_5.out).2.2 x11_2 p882 q882
                                                          obtain rfl : ad868 = ad882 := (by injection e882)
                                                          obtain ⟨ce882, hce882, hMe882, hcc882⟩ := Kd.S_get HO_5.out [] x11_2 p882 (by first | exact q882 | exact of_decide_eq_true (by first | (with_reducible assumption) | assumption) | (have e_ := (Kd.S_reads' HO_5.out).1; omega))
                                                          obtain ⟨ve882_0, rfl, ge882_0⟩ := hMe882
                                                          have hv882_0 := hcc882 0 _ rfl
                                                          rw [Nat.add_zero, show ((Kd.slice 2 (Kd.int .i64))).sz = 1 from rfl, Nat.mul_one] at hv882_0
                                                          replace hv882_0 := Option.some.inj (hv882_0.symm.trans hx882_0)
                                                          rw [hv882_0] at ge882_0
                                                          have HL882_0 := Aside0.mk (show Kd.R (Kd.int .i64) 2 _ _ _ _ (rd_L1 t841 x11_2) from ge882_0)
                                                          clear hv882_0 ge882_0
                                                          clear hcc882 hce882
                                                          have HR882_0 := Aside0.mk hi882_0
                                                          have HC882_0 := Aside0.mk hl882_0
                                                          clear hi882_0 hl882_0
                                                          replace p882 := eq_true p882
                                                          replace q882 := eq_true q882
                                                          have ea_ := Option.some.inj (hx878_0.symm.trans hx882_0)
                                                          injection ea_ with ea_ en_ ec_
                                                          subst ea_
                                                          subst ec_
                                                          clear en_
                                                          have p883 : 0 ≤ (x16_4 : Int) := of_decide_eq_true (by first | (with_reducible assumption) | assumption)
                                                          have q883 : x16_4 < ((rd_L1 t841 x11_2).length : Int) := of_decide_eq_true (by first | (with_reducible assumption) | assumption)
                                                          obtain ⟨ad883, e883, hx883_0⟩ := Kd.at_int (by repeat (first | (with_reducible exact HR882_0.out) | (with_reducible refine Kd.C_alloc ?_ _) | (with_reducible refine Kd.C_drewN ?_ _) | (with_reducible refine Kd.C_drew ?_) | exact HR882_0.out)) x16_4 p883 q883
                                                          cases e883
                                                          replace p883 := eq_true p883
                                                          replace q883 := eq_true q883
                                                          go_wp2
                                                          go_roundg k4
                                                          case measure => have := HK1.out; have := HK2.out; have := HK3.out; have := HK4.out; omega
                                                          case rel => exact ⟨(x14_4), (wrap64 (x15_4 + 1)), (wrap64 (x16_4 + 1)), (by first | rfl | (simp; done) | (simp [*]; done)), (by first | rfl | (simp; done) | (simp [*]; done)), (by first | rfl | (simp; done) | (simp [*]; done)), H', ⟨by have := HK1.out; have := HK2.out; have := HK3.out; have := HK4.out; omega⟩, ⟨by (try simp only [hl8_1]); (try simp only [hl8_2]); (try simp only [hl8_3]); (with_reducible repeat (first | apply Kd.S_alloc | apply Kd.S_drewN | apply Kd.S_drew)); exact HO_5.out⟩, ⟨by (try simp only [hl8_1]); (try simp only [hl8_2]); (try simp only [hl8_3]); (with_reducible repeat (first | apply Kd.R_alloc | apply Kd.R_drewN | apply Kd.R_drew)); exact HO_8.out⟩, ⟨by (try simp only [hl8_1]); (try simp only [hl8_2]); (try simp only [hl8_3]); (with_reducible repeat (first | apply Kd.R_alloc | apply Kd.R_drewN | apply Kd.R_drew)); exact HO_9.out⟩, ⟨by (try simp only [hl8_1]); (try simp only [hl8_2]); (try simp only [hl8_3]); (with_reducible repeat (first | refine blk_drewN ?_ _ | refine blk_drew ?_ | refine blk_alloc ?_ _)); exact BK840.out⟩, ⟨by repeat (first | (with_reducible exact HR868_0.out) | (with_reducible refine Kd.C_alloc ?_ _) | (with_reducible refine Kd.C_drewN ?_ _) | (with_reducible refine Kd.C_drew ?_) | exact HR868_0.out)⟩, ⟨by repeat (first | (with_reducible first | exact HB.out | apply below_alloc | apply pw_below_drewN | apply below_drew1 | refine below_set ?_ GE840.out) | exact HB.out)⟩⟩
                                                        · rw [if_neg c54] at H
                                                          have c54b0 : ((rd (rd_L1 t841 x11_2) x16_4) == (wrap64 ((rd (rd_L1 t841 x11_2) x12_3) - 1))) = false := beq_eq_false_iff_ne.mpr c54
                                                          have c54b1 : ((rd (rd_L1 t841 x11_2) x16_4) != (wrap64 ((rd (rd_L1 t841 x11_2) x12_3) - 1))) = true := bne_iff_ne.mpr c54
                                                          have H' := Aside0.mk H
                                                          clear H
                                                          have hcz56_0 : wr.cell? ⟨gb840, 0, none⟩ = some (.int .i64 a0_0) := (blk_cell BK840.out 0).trans rfl
                                                          have hcz56_1 : wr.cell? ⟨gb840, 1, none⟩ = some (.slice A0_1 l0_1.length c0_1) := (blk_cell BK840.out 1).trans rfl
                                                          have hfz56_0 := blk_frozen BK840.out 0
                                                          have hfz56_1 := blk_frozen BK840.out 1
                                                          have p877 : 0 ≤ (x12_3 : Int) := of_decide_eq_true (by first | (with_reducible assumption) | assumption)
                                                          have q877 : x12_3 < (l0_1.length : Int) := of_decide_eq_true (by first | (with_reducible assumption) | assumption)
                                                          obtain ⟨ad877, e877, hx877_0⟩ := Kd.at_int HR0_1.out x12_3 p877 q877
                                                          cases e877
                                                          (try replace hx877_0 := (HB.out.cell (World.block_lt_of_cell? w _ hx877_0)).trans hx877_0)
                                                          replace p877 := eq_true p877
                                                          replace q877 := eq_true q877
                                                          have p878 : 0 ≤ (x11_2 : Int) := of_decide_eq_true (by first | (with_reducible assumption) | assumption)
                                                          have q878 : x11_2 < (t841.length : Int) := of_decide_eq_true (by first | (with_reducible assumption) | assumption)
                                                          obtain ⟨ad878, A878_0, c878_0, e878, hx878_0, hl878_0, hi878_0⟩ := at_L1 (Kd.S_reads' HO_5.out).2.2 x11_2 p878 q878
                                                          obtain rfl : ad868 = ad878 := (by injection e878)
                                                          obtain ⟨ce878, hce878, hMe878, hcc878⟩ := Kd.S_get HO_5.out [] x11_2 p878 (by first | exact q878 | exact of_decide_eq_true (by first | (with_reducible assumption) | assumption) | (have e_ := (Kd.S_reads' HO_5.out).1; omega))
                                                          obtain ⟨ve878_0, rfl, ge878_0⟩ := hMe878
                                                          have hv878_0 := hcc878 0 _ rfl
                                                          rw [Nat.add_zero, show ((Kd.slice 2 (Kd.int .i64))).sz = 1 from rfl, Nat.mul_one] at hv878_0
                                                          replace hv878_0 := Option.some.inj (hv878_0.symm.trans hx878_0)
                                                          rw [hv878_0] at ge878_0
                                                          have HL878_0 := Aside0.mk (show Kd.R (Kd.int .i64) 2 _ _ _ _ (rd_L1 t841 x11_2) from ge878_0)
                                                          clear hv878_0 ge878_0
                                                          clear hcc878 hce878
                                                          have HR878_0 := Aside0.mk hi878_0
                                                          have HC878_0 := Aside0.mk hl878_0
                                                          clear hi878_0 hl878_0
                                                          replace p878 := eq_true p878
                                                          replace q878 := eq_true q878
                                                          have p879 : 0 ≤ (x16_4 : Int) := of_decide_eq_true (by first | (with_reducible assumption) | assumption)
                                                          have q879 : x16_4 < ((rd_L1 t841 x11_2).length : Int) := of_decide_eq_true (by first | (with_reducible assumption) | assumption)
                                                          obtain ⟨ad879, e879, hx879_0⟩ := Kd.at_int (by repeat (first | (with_reducible exact HR878_0.out) | (with_reducible refine Kd.C_alloc ?_ _) | (with_reducible refine Kd.C_drewN ?_ _) | (with_reducible refine Kd.C_drew ?_) | exact HR878_0.out)) x16_4 p879 q879
                                                          cases e879
                                                          replace p879 := eq_true p879
                                                          replace q879 := eq_true q879
                                                          have p882 : 0 ≤ (x11_2 : Int) := of_decide_eq_true (by first | (with_reducible assumption) | assumption)
                                                          have q882 : x11_2 < (t841.length : Int) := of_decide_eq_true (by first | (with_reducible assumption) | assumption)
                                                          obtain ⟨ad882, A882_0, c882_0, e882, hx882_0, hl882_0, hi882_0⟩ := at_L1 (Kd.S_reads' HO_5.out).2.2 x11_2 p882 q882
                                                          obtain rfl : ad868 = ad882 := (by injection e882)
                                                          obtain ⟨ce882, hce882, hMe882, hcc882⟩ := Kd.S_get HO_5.out [] x11_2 p882 (by first | exact q882 | exact of_decide_eq_true (by first | (with_reducible assumption) | assumption) | (have e_ := (Kd.S_reads' HO_5.out).1; omega))
                                                          obtain ⟨ve882_0, rfl, ge882_0⟩ := hMe882
                                                          have hv882_0 := hcc882 0 _ rfl
                                                          rw [Nat.add_zero, show ((Kd.slice 2 (Kd.int .i64))).sz = 1 from rfl, Nat.mul_one] at hv882_0
                                                          replace hv882_0 := Option.some.inj (hv882_0.symm.trans hx882_0)
                                                          rw [hv882_0] at ge882_0
                                                          have HL882_0 := Aside0.mk (show Kd.R (Kd.int .i64) 2 _ _ _ _ (rd_L1 t841 x11_2) from ge882_0)
                                                          clear hv882_0 ge882_0
                                                          clear hcc882 hce882
                                                          have HR882_0 := Aside0.mk hi882_0
                                                          have HC882_0 := Aside0.mk hl882_0
                                                          clear hi882_0 hl882_0
                                                          replace p882 := eq_true p882
                                                          replace q882 := eq_true q882
                                                          have ea_ := Option.some.inj (hx878_0.symm.trans hx882_0)
                                                          injection ea_ with ea_ en_ ec_
                                                          subst ea_
                                                          subst ec_
                                                          clear en_
                                                          have p883 : 0 ≤ (x16_4 : Int) := of_decide_eq_true (by first | (with_reducible assumption) | assumption)
                                                          have q883 : x16_4 < ((rd_L1 t841 x11_2).length : Int) := of_decide_eq_true (by first | (with_reducible assumption) | assumption)
                                                          obtain ⟨ad883, e883, hx883_0⟩ := Kd.at_int (by repeat (first | (with_reducible exact HR882_0.out) | (with_reducible refine Kd.C_alloc ?_ _) | (with_reducible refine Kd.C_drewN ?_ _) | (with_reducible refine Kd.C_drew ?_) | exact HR882_0.out)) x16_4 p883 q883
                                                          cases e883
                                                          replace p883 := eq_true p883
                                                          replace q883 := eq_true q883
                                                          go_wp2
                                                          go_roundg k4
                                                          case measure => have := HK1.out; have := HK2.out; have := HK3.out; have := HK4.out; omega
                                                          case rel => exact ⟨(x14_4), (x15_4), (wrap64 (x16_4 + 1)), (by first | rfl | (simp; done) | (simp [*]; done)), (by first | rfl | (simp; done) | (simp [*]; done)), (by first | rfl | (simp; done) | (simp [*]; done)), H', ⟨by have := HK1.out; have := HK2.out; have := HK3.out; have := HK4.out; omega⟩, ⟨by (try simp only [hl8_1]); (try simp only [hl8_2]); (try simp only [hl8_3]); (with_reducible repeat (first | apply Kd.S_alloc | apply Kd.S_drewN | apply Kd.S_drew)); exact HO_5.out⟩, ⟨by (try simp only [hl8_1]); (try simp only [hl8_2]); (try simp only [hl8_3]); (with_reducible repeat (first | apply Kd.R_alloc | apply Kd.R_drewN | apply Kd.R_drew)); exact HO_8.out⟩, ⟨by (try simp only [hl8_1]); (try simp only [hl8_2]); (try simp only [hl8_3]); (with_reducible repeat (first | apply Kd.R_alloc | apply Kd.R_drewN | apply Kd.R_drew)); exact HO_9.out⟩, ⟨by (try simp only [hl8_1]); (try simp only [hl8_2]); (try simp only [hl8_3]); (with_reducible repeat (first | refine blk_drewN ?_ _ | refine blk_drew ?_ | refine blk_alloc ?_ _)); exact BK840.out⟩, ⟨by repeat (first | (with_reducible exact HR868_0.out) | (with_reducible refine Kd.C_alloc ?_ _) | (with_reducible refine Kd.C_drewN ?_ _) | (with_reducible refine Kd.C_drew ?_) | exact HR868_0.out)⟩, ⟨by repeat (first | (with_reducible first | exact HB.out | apply below_alloc | apply pw_below_drewN | apply below_drew1 | refine below_set ?_ GE840.out) | exact HB.out)⟩⟩
                                                    · rw [if_neg c49] at H
                                                      exact absurd H (by simp)
                                                  · rw [if_neg c48] at H
                                                    exact absurd H (by simp)
                                                · rw [if_neg c47] at H
                                                  exact absurd H (by simp)
                                              · rw [if_neg c46] at H
                                                exact absurd H (by simp)
                                          · rw [if_neg c42] at H
                                            exact absurd H (by simp)
                                        · rw [if_neg c40] at H
                                          exact absurd H (by simp)
                                      · rw [if_neg c39] at H
                                        exact absurd H (by simp)
                                    · rw [if_neg c38] at H
                                      have c38b0 : decide (x16_4 < a0_0) = false := decide_eq_false c38
                                      clear c38
                                      by_cases c57 : 0 ≤ (rd (rd_L1 t841 x11_2) x12_3)
                                      · rw [if_pos c57] at H
                                        have c57b0 : decide (0 ≤ (rd (rd_L1 t841 x11_2) x12_3)) = true := decide_eq_true c57
                                        clear c57
                                        by_cases c58 : (rd (rd_L1 t841 x11_2) x12_3) < (x8_3.length : Int)
                                        · rw [if_pos c58] at H
                                          have c58b0 : decide ((rd (rd_L1 t841 x11_2) x12_3) < (x8_3.length : Int)) = true := decide_eq_true c58
                                          (try (have c58b0_hl8_1 := c58b0; rw [hl8_1] at c58b0_hl8_1))
                                          (try (have c58b0_hl8_2 := c58b0; rw [hl8_2] at c58b0_hl8_2))
                                          (try (have c58b0_hl8_3 := c58b0; rw [hl8_3] at c58b0_hl8_3))
                                          clear c58
                                          by_cases c59 : (rd x8_3 (rd (rd_L1 t841 x11_2) x12_3)) ≥ 0
                                          · rw [if_pos c59] at H
                                            have c59b0 : decide (0 ≤ (rd x8_3 (rd (rd_L1 t841 x11_2) x12_3))) = true := decide_eq_true c59
                                            clear c59
                                            by_cases c60 : (rd x8_3 (rd (rd_L1 t841 x11_2) x12_3)) = x14_4
                                            · rw [if_pos c60] at H
                                              have c60b0 : ((rd x8_3 (rd (rd_L1 t841 x11_2) x12_3)) == x14_4) = true := beq_iff_eq.mpr c60
                                              have c60b1 : ((rd x8_3 (rd (rd_L1 t841 x11_2) x12_3)) != x14_4) = false := bne_eq_false_iff_eq.mpr c60
                                              clear c60
                                              by_cases c61 : (rd (rd_L1 t841 x11_2) x12_3) < (x9_3.length : Int)
                                              · rw [if_pos c61] at H
                                                have c61b0 : decide ((rd (rd_L1 t841 x11_2) x12_3) < (x9_3.length : Int)) = true := decide_eq_true c61
                                                (try (have c61b0_hl8_1 := c61b0; rw [hl8_1] at c61b0_hl8_1))
                                                (try (have c61b0_hl8_2 := c61b0; rw [hl8_2] at c61b0_hl8_2))
                                                (try (have c61b0_hl8_3 := c61b0; rw [hl8_3] at c61b0_hl8_3))
                                                clear c61
                                                by_cases c62 : (rd x9_3 (rd (rd_L1 t841 x11_2) x12_3)) = x15_4
                                                · rw [if_pos c62] at H
                                                  have c62b0 : ((rd x9_3 (rd (rd_L1 t841 x11_2) x12_3)) == x15_4) = true := beq_iff_eq.mpr c62
                                                  have c62b1 : ((rd x9_3 (rd (rd_L1 t841 x11_2) x12_3)) != x15_4) = false := bne_eq_false_iff_eq.mpr c62
                                                  clear c62
                                                  obtain ⟨y873, hy873⟩ : ∃ y_ : List Int, y_ = (x8_3.set ((rd (rd_L1 t841 x11_2) x12_3) : Int).toNat x14_4) := ⟨_, rfl⟩
                                                  replace H : (spec_l06Arrays.l2 k4 t841 t844 y873 (x9_3.set ((rd (rd_L1 t841 x11_2) x12_3) : Int).toNat x15_4) x11_2 (wrap64 (x12_3 + 1)) a0_0 l0_1) = some (r1, r2, r3) := by first | (rw [hy873]; with_reducible exact H) | (have H2_ := (Option.bind_some _ _).symm.trans H; rw [hy873]; with_reducible exact H2_) | (have H2_ := (Option.bind_some _ _).symm.trans H; with_reducible exact H2_) | with_reducible exact H | (rw [hy873]; exact H) | exact H
                                                  have Ny873 := Aside0.mk hy873
                                                  clear hy873
                                                  obtain ⟨y874, hy874⟩ : ∃ y_ : List Int, y_ = (x9_3.set ((rd (rd_L1 t841 x11_2) x12_3) : Int).toNat x15_4) := ⟨_, rfl⟩
                                                  replace H : (spec_l06Arrays.l2 k4 t841 t844 y873 y874 x11_2 (wrap64 (x12_3 + 1)) a0_0 l0_1) = some (r1, r2, r3) := by first | (rw [hy874]; with_reducible exact H) | (have H2_ := (Option.bind_some _ _).symm.trans H; rw [hy874]; with_reducible exact H2_) | (have H2_ := (Option.bind_some _ _).symm.trans H; with_reducible exact H2_) | with_reducible exact H | (rw [hy874]; exact H) | exact H
                                                  have Ny874 := Aside0.mk hy874
                                                  clear hy874
                                                  have H' := Aside0.mk H
                                                  clear H
                                                  have hcz65_0 : wr.cell? ⟨gb840, 0, none⟩ = some (.int .i64 a0_0) := (blk_cell BK840.out 0).trans rfl
                                                  have hcz65_1 : wr.cell? ⟨gb840, 1, none⟩ = some (.slice A0_1 l0_1.length c0_1) := (blk_cell BK840.out 1).trans rfl
                                                  have hfz65_0 := blk_frozen BK840.out 0
                                                  have hfz65_1 := blk_frozen BK840.out 1
                                                  have p870 : 0 ≤ ((rd (rd_L1 t841 x11_2) x12_3) : Int) := of_decide_eq_true (by first | (with_reducible assumption) | assumption)
                                                  have q870 : (rd (rd_L1 t841 x11_2) x12_3) < (x8_3.length : Int) := of_decide_eq_true (by first | (with_reducible assumption) | assumption)
                                                  obtain ⟨ad870, e870, hx870_0⟩ := Kd.at_int (Kd.R_reads' HO_8.out).2.2 (rd (rd_L1 t841 x11_2) x12_3) p870 q870
                                                  cases e870
                                                  replace p870 := eq_true p870
                                                  replace q870 := eq_true q870
                                                  have p871 : 0 ≤ ((rd (rd_L1 t841 x11_2) x12_3) : Int) := of_decide_eq_true (by first | (with_reducible assumption) | assumption)
                                                  have q871 : (rd (rd_L1 t841 x11_2) x12_3) < (x8_3.length : Int) := of_decide_eq_true (by first | (with_reducible assumption) | assumption)
                                                  obtain ⟨ad871, e871, hx871_0⟩ := Kd.at_int (Kd.R_reads' HO_8.out).2.2 (rd (rd_L1 t841 x11_2) x12_3) p871 q871
                                                  obtain rfl : ad870 = ad871 := (by injection e871)
                                                  replace p871 := eq_true p871
                                                  replace q871 := eq_true q871
                                                  obtain ⟨Ao66, co66, eo66⟩ := Kd.R_slice HO_9.out
                                                  subst eo66
                                                  have p872 : 0 ≤ ((rd (rd_L1 t841 x11_2) x12_3) : Int) := of_decide_eq_true (by first | (with_reducible assumption) | assumption)
                                                  have q872 : (rd (rd_L1 t841 x11_2) x12_3) < (x9_3.length : Int) := of_decide_eq_true (by first | (with_reducible assumption) | assumption)
                                                  obtain ⟨ad872, e872, hx872_0⟩ := Kd.at_int (Kd.R_reads' HO_9.out).2.2 (rd (rd_L1 t841 x11_2) x12_3) p872 q872
                                                  cases e872
                                                  replace p872 := eq_true p872
                                                  replace q872 := eq_true q872
                                                  have p63 : 0 ≤ ((rd (rd_L1 t841 x11_2) x12_3) : Int) := of_decide_eq_true (by first | (with_reducible assumption) | assumption)
                                                  have q63 : ((rd (rd_L1 t841 x11_2) x12_3) : Int) < ((x8_3.length : Int) : Int) := of_decide_eq_true (by first | (with_reducible assumption) | assumption)
                                                  obtain ⟨go63, co63, eo63, gb63, gl63, cl63, HG63⟩ := Kd.R_form HO_8.out (by omega)
                                                  (first | cases eo63 | (injection eo63 with ea_ en_ ec_; (first | subst ea_ | (injection ea_ with ea_; subst ea_)); subst ec_; clear en_))
                                                  have GB63 := Aside0.mk gb63
                                                  have GG63 := Aside0.mk HG63
                                                  clear gb63 gl63 HG63
                                                  (first | simp only [add_plain] at hx870_0 | skip)
                                                  (first | simp only [add_plain] at hx871_0 | skip)
                                                  obtain ⟨hx63_0, hf63_0⟩ := Kd.R_celln 0 HO_8.out ((rd (rd_L1 t841 x11_2) x12_3) : Int) p63 q63
                                                  replace p63 := eq_true p63
                                                  replace q63 := eq_true q63
                                                  have HP67 := Kd.R_putg HO_8.out ((rd (rd_L1 t841 x11_2) x12_3) : Int) x14_4
                                                  go_wp2_with (first | ((with_reducible refine gate_store (t := 2) (p := 125) rfl ?_); refine store_event (t := 2) (p := 125) (v := ?vo_w68) (w1 := (wr.setCell ⟨go63, ((rd (rd_L1 t841 x11_2) x12_3) : Int).toNat, none⟩ (.int .i64 x14_4))) ?hg ?ho ?hn ?hr ?_; (case ho => rfl); (case hg => rfl); (case hn => rfl); (case hr => first | (go_simp; done) | (go_simp; rfl)); intro w68 hw; have hg : wr.grownBy w68 (some go63) := (by rw [hw]; exact HP67.2); have hp_ : Kd.R (Kd.int .i64) 2 w68 w.heap.size (fun k_ => some k_ ≠ (.slice (some ad872) x9_3.length co66 : Value).ownBlock) (.slice (some ⟨go63, 0, none⟩) x8_3.length co18) y873 := (by rw [hw, Ny873.out]; exact HP67.1); clear HP67; have n0_ := Aside0.mk (Kd.S_after (v := (.slice (some ⟨go63, 0, none⟩) x8_3.length co18)) (v1 := (.slice (some ⟨go63, 0, none⟩) x8_3.length co18)) (ok := (fun k_ => some k_ ≠ (.slice (some ad872) x9_3.length co66 : Value).ownBlock)) (by (with_reducible repeat (first | apply Kd.S_alloc | apply Kd.S_drewN | apply Kd.S_drew)); exact Kd.S_mono HO_5.out (fun _ hk => ⟨hk.2, hk.1⟩)) hg (.inl rfl)); have n1_ := Aside0.mk (hp_); have n2_ := Aside0.mk (Kd.R_after (v := (.slice (some ⟨go63, 0, none⟩) x8_3.length co18)) (v1 := (.slice (some ⟨go63, 0, none⟩) x8_3.length co18)) (ok := (fun _ => True)) (by (with_reducible repeat (first | apply Kd.R_alloc | apply Kd.R_drewN | apply Kd.R_drew)); exact Kd.R_mono HO_9.out (fun _ hk => ⟨trivial, hk⟩)) hg (.inl rfl)); have n3_ := Aside0.mk (blk_grown (g := gb840) (o := .cells #[.int .i64 a0_0, .slice A0_1 l0_1.length c0_1] 26 (0, 0)) (by (with_reducible repeat (first | refine blk_drewN ?_ _ | refine blk_drew ?_ | refine blk_alloc ?_ _)); exact BK840.out) hg (Kd.R_ne HO_8.out BK840.out (by decide))); have n4_ := Aside0.mk ((by rw [hw]; exact below_set (HB.out) GB63.out : Below w.heap.size w w68)); clear HO_5; clear HO_8; clear HO_9; clear BK840; clear HB; have HO_5 := n0_; have HO_8 := n1_; have HO_9 := n2_; have BK840 := n3_; have HB := n4_; clear n0_ n1_ n2_ n3_ n4_; clear hg hw hp_; have p64 : 0 ≤ ((rd (rd_L1 t841 x11_2) x12_3) : Int) := of_decide_eq_true (by first | (with_reducible assumption) | assumption); have q64 : ((rd (rd_L1 t841 x11_2) x12_3) : Int) < ((x9_3.length : Int) : Int) := of_decide_eq_true (by first | (with_reducible assumption) | assumption); obtain ⟨go64, co64, eo64, gb64, gl64, cl64, HG64⟩ := Kd.R_form HO_9.out (by omega); (first | cases eo64 | (injection eo64 with ea_ en_ ec_; (first | subst ea_ | (injection ea_ with ea_; subst ea_)); subst ec_; clear en_)); have GB64 := Aside0.mk gb64; have GG64 := Aside0.mk HG64; clear gb64 gl64 HG64; (first | simp only [add_plain] at hx872_0 | skip); obtain ⟨hx64_0, hf64_0⟩ := Kd.R_celln 0 HO_9.out ((rd (rd_L1 t841 x11_2) x12_3) : Int) p64 q64; replace p64 := eq_true p64; replace q64 := eq_true q64; have n_ := Aside0.mk (Kd.R_mono (ok' := (fun k_ => some k_ ≠ (.slice (some ⟨go63, 0, none⟩) x8_3.length co18 : Value).ownBlock)) HO_9.out (fun k_ hk => hk.2)); clear HO_9; have HO_9 := n_; clear n_; obtain ⟨hy69_, hz69_⟩ := Kd.R_celln 0 HO_9.out ((rd (rd_L1 t841 x11_2) x12_3) : Int) (of_decide_eq_true (by first | (with_reducible assumption) | assumption)) (of_decide_eq_true (by first | (with_reducible assumption) | assumption)); have HP69 := Kd.R_putg HO_9.out ((rd (rd_L1 t841 x11_2) x12_3) : Int) x15_4) | ((with_reducible refine gate_store (t := 2) (p := 129) rfl ?_); refine store_event (t := 2) (p := 129) (v := ?vo_w70) (w1 := (w68.setCell ⟨go64, ((rd (rd_L1 t841 x11_2) x12_3) : Int).toNat, none⟩ (.int .i64 x15_4))) ?hg ?ho ?hn ?hr ?_; (case ho => rfl); (case hg => rfl); (case hn => rfl); (case hr => first | (go_simp; done) | (go_simp; rfl)); intro w70 hw; have hg : w68.grownBy w70 (some go64) := (by rw [hw]; exact HP69.2); have hp_ : Kd.R (Kd.int .i64) 2 w70 w.heap.size (fun k_ => some k_ ≠ (.slice (some ⟨go63, 0, none⟩) x8_3.length co18 : Value).ownBlock) (.slice (some ⟨go64, 0, none⟩) x9_3.length co66) y874 := (by rw [hw, Ny874.out]; exact HP69.1); clear HP69; have n0_ := Aside0.mk (Kd.S_after (v := (.slice (some ⟨go64, 0, none⟩) x9_3.length co66)) (v1 := (.slice (some ⟨go64, 0, none⟩) x9_3.length co66)) (ok := (fun k_ => some k_ ≠ (.slice (some ⟨go63, 0, none⟩) x8_3.length co18 : Value).ownBlock)) (by (with_reducible repeat (first | apply Kd.S_alloc | apply Kd.S_drewN | apply Kd.S_drew)); exact Kd.S_mono HO_5.out (fun _ hk => ⟨hk.2, hk.1⟩)) hg (.inl rfl)); have n1_ := Aside0.mk (Kd.R_after (v := (.slice (some ⟨go64, 0, none⟩) x9_3.length co66)) (v1 := (.slice (some ⟨go64, 0, none⟩) x9_3.length co66)) (ok := (fun _ => True)) (by (with_reducible repeat (first | apply Kd.R_alloc | apply Kd.R_drewN | apply Kd.R_drew)); exact Kd.R_mono HO_8.out (fun _ hk => ⟨trivial, hk⟩)) hg (.inl rfl)); have n2_ := Aside0.mk (hp_); have n3_ := Aside0.mk (blk_grown (g := gb840) (o := .cells #[.int .i64 a0_0, .slice A0_1 l0_1.length c0_1] 26 (0, 0)) (by (with_reducible repeat (first | refine blk_drewN ?_ _ | refine blk_drew ?_ | refine blk_alloc ?_ _)); exact BK840.out) hg (Kd.R_ne HO_9.out BK840.out (by decide))); have n4_ := Aside0.mk ((by rw [hw]; exact below_set (HB.out) GB64.out : Below w.heap.size w w70)); clear HO_5; clear HO_8; clear HO_9; clear BK840; clear HB; have HO_5 := n0_; have HO_8 := n1_; have HO_9 := n2_; have BK840 := n3_; have HB := n4_; clear n0_ n1_ n2_ n3_ n4_; clear hg hw hp_))
                                                  (try simp only [← hl8_3])
                                                  go_roundg k4
                                                  case measure => have := HK1.out; have := HK2.out; have := HK3.out; have := HK4.out; omega
                                                  case rel => exact ⟨(y873), (y874), (wrap64 (x12_3 + 1)), (by first | rfl | (simp; done) | (simp [*]; done)), H', ⟨by have := HK1.out; have := HK2.out; have := HK3.out; have := HK4.out; omega⟩, ⟨by (try simp only [hl8_1]); (try simp only [hl8_2]); (try simp only [hl8_3]); (with_reducible repeat (first | apply Kd.S_alloc | apply Kd.S_drewN | apply Kd.S_drew)); exact HO_5.out⟩, ⟨by (try simp only [hl8_1]); (try simp only [hl8_2]); (try simp only [hl8_3]); (with_reducible repeat (first | apply Kd.R_alloc | apply Kd.R_drewN | apply Kd.R_drew)); exact Kd.R_mono HO_8.out (fun _ hk => hk.2)⟩, ⟨by (try simp only [hl8_1]); (try simp only [hl8_2]); (try simp only [hl8_3]); (with_reducible repeat (first | apply Kd.R_alloc | apply Kd.R_drewN | apply Kd.R_drew)); exact HO_9.out⟩, ⟨by (try simp only [hl8_1]); (try simp only [hl8_2]); (try simp only [hl8_3]); (with_reducible repeat (first | refine blk_drewN ?_ _ | refine blk_drew ?_ | refine blk_alloc ?_ _)); exact BK840.out⟩, ⟨by repeat (first | (with_reducible first | exact HB.out | apply below_alloc | apply pw_below_drewN | apply below_drew1 | refine below_set ?_ GE840.out) | exact HB.out)⟩⟩
                                                · rw [if_neg c62] at H
                                                  have c62b0 : ((rd x9_3 (rd (rd_L1 t841 x11_2) x12_3)) == x15_4) = false := beq_eq_false_iff_ne.mpr c62
                                                  have c62b1 : ((rd x9_3 (rd (rd_L1 t841 x11_2) x12_3)) != x15_4) = true := bne_iff_ne.mpr c62
                                                  simp only [Option.some.injEq, Prod.mk.injEq] at H
                                                  obtain ⟨rfl, rfl, rfl⟩ := H
                                                  have hcz71_0 : wr.cell? ⟨gb840, 0, none⟩ = some (.int .i64 a0_0) := (blk_cell BK840.out 0).trans rfl
                                                  have hcz71_1 : wr.cell? ⟨gb840, 1, none⟩ = some (.slice A0_1 l0_1.length c0_1) := (blk_cell BK840.out 1).trans rfl
                                                  have hfz71_0 := blk_frozen BK840.out 0
                                                  have hfz71_1 := blk_frozen BK840.out 1
                                                  have p870 : 0 ≤ ((rd (rd_L1 t841 x11_2) x12_3) : Int) := of_decide_eq_true (by first | (with_reducible assumption) | assumption)
                                                  have q870 : (rd (rd_L1 t841 x11_2) x12_3) < (x8_3.length : Int) := of_decide_eq_true (by first | (with_reducible assumption) | assumption)
                                                  obtain ⟨ad870, e870, hx870_0⟩ := Kd.at_int (Kd.R_reads' HO_8.out).2.2 (rd (rd_L1 t841 x11_2) x12_3) p870 q870
                                                  cases e870
                                                  replace p870 := eq_true p870
                                                  replace q870 := eq_true q870
                                                  have p871 : 0 ≤ ((rd (rd_L1 t841 x11_2) x12_3) : Int) := of_decide_eq_true (by first | (with_reducible assumption) | assumption)
                                                  have q871 : (rd (rd_L1 t841 x11_2) x12_3) < (x8_3.length : Int) := of_decide_eq_true (by first | (with_reducible assumption) | assumption)
                                                  obtain ⟨ad871, e871, hx871_0⟩ := Kd.at_int (Kd.R_reads' HO_8.out).2.2 (rd (rd_L1 t841 x11_2) x12_3) p871 q871
                                                  obtain rfl : ad870 = ad871 := (by injection e871)
                                                  replace p871 := eq_true p871
                                                  replace q871 := eq_true q871
                                                  obtain ⟨Ao72, co72, eo72⟩ := Kd.R_slice HO_9.out
                                                  subst eo72
                                                  have p872 : 0 ≤ ((rd (rd_L1 t841 x11_2) x12_3) : Int) := of_decide_eq_true (by first | (with_reducible assumption) | assumption)
                                                  have q872 : (rd (rd_L1 t841 x11_2) x12_3) < (x9_3.length : Int) := of_decide_eq_true (by first | (with_reducible assumption) | assumption)
                                                  obtain ⟨ad872, e872, hx872_0⟩ := Kd.at_int (Kd.R_reads' HO_9.out).2.2 (rd (rd_L1 t841 x11_2) x12_3) p872 q872
                                                  cases e872
                                                  replace p872 := eq_true p872
                                                  replace q872 := eq_true q872
                                                  go_wp2
                                                  go_ret3
                                                  exact ⟨_, _, by first | rfl | (simp [errW_none, errW_some] <;> rfl) | (simp only [← hji4]; first | rfl | (simp [errW_none, errW_some] <;> rfl)) | (simp [*, errW_none, errW_some] <;> rfl), by first | exact Kd.R_nil _ _ _ _ _ | exact Kd.N_nil _ _ _ _ _ | exact Kd.V_nil _ _ _ _ _ | exact Kd.Q_nil _ _ _ _ _ | exact Kd.S_nil _ _ _ _ _, by first | exact Kd.R_nil _ _ _ _ _ | exact Kd.N_nil _ _ _ _ _ | exact Kd.V_nil _ _ _ _ _ | exact Kd.Q_nil _ _ _ _ _ | exact Kd.S_nil _ _ _ _ _, by repeat (first | (with_reducible first | exact HB.out | apply below_alloc | apply pw_below_drewN | apply below_drew1 | refine below_set ?_ GE840.out) | exact HB.out)⟩
                                              · rw [if_neg c61] at H
                                                exact absurd H (by simp)
                                            · rw [if_neg c60] at H
                                              have c60b0 : ((rd x8_3 (rd (rd_L1 t841 x11_2) x12_3)) == x14_4) = false := beq_eq_false_iff_ne.mpr c60
                                              have c60b1 : ((rd x8_3 (rd (rd_L1 t841 x11_2) x12_3)) != x14_4) = true := bne_iff_ne.mpr c60
                                              simp only [Option.some.injEq, Prod.mk.injEq] at H
                                              obtain ⟨rfl, rfl, rfl⟩ := H
                                              have hcz73_0 : wr.cell? ⟨gb840, 0, none⟩ = some (.int .i64 a0_0) := (blk_cell BK840.out 0).trans rfl
                                              have hcz73_1 : wr.cell? ⟨gb840, 1, none⟩ = some (.slice A0_1 l0_1.length c0_1) := (blk_cell BK840.out 1).trans rfl
                                              have hfz73_0 := blk_frozen BK840.out 0
                                              have hfz73_1 := blk_frozen BK840.out 1
                                              have p870 : 0 ≤ ((rd (rd_L1 t841 x11_2) x12_3) : Int) := of_decide_eq_true (by first | (with_reducible assumption) | assumption)
                                              have q870 : (rd (rd_L1 t841 x11_2) x12_3) < (x8_3.length : Int) := of_decide_eq_true (by first | (with_reducible assumption) | assumption)
                                              obtain ⟨ad870, e870, hx870_0⟩ := Kd.at_int (Kd.R_reads' HO_8.out).2.2 (rd (rd_L1 t841 x11_2) x12_3) p870 q870
                                              cases e870
                                              replace p870 := eq_true p870
                                              replace q870 := eq_true q870
                                              have p871 : 0 ≤ ((rd (rd_L1 t841 x11_2) x12_3) : Int) := of_decide_eq_true (by first | (with_reducible assumption) | assumption)
                                              have q871 : (rd (rd_L1 t841 x11_2) x12_3) < (x8_3.length : Int) := of_decide_eq_true (by first | (with_reducible assumption) | assumption)
                                              obtain ⟨ad871, e871, hx871_0⟩ := Kd.at_int (Kd.R_reads' HO_8.out).2.2 (rd (rd_L1 t841 x11_2) x12_3) p871 q871
                                              obtain rfl : ad870 = ad871 := (by injection e871)
                                              replace p871 := eq_true p871
                                              replace q871 := eq_true q871
                                              go_wp2
                                              go_ret3
                                              exact ⟨_, _, by first | rfl | (simp [errW_none, errW_some] <;> rfl) | (simp only [← hji4]; first | rfl | (simp [errW_none, errW_some] <;> rfl)) | (simp [*, errW_none, errW_some] <;> rfl), by first | exact Kd.R_nil _ _ _ _ _ | exact Kd.N_nil _ _ _ _ _ | exact Kd.V_nil _ _ _ _ _ | exact Kd.Q_nil _ _ _ _ _ | exact Kd.S_nil _ _ _ _ _, by first | exact Kd.R_nil _ _ _ _ _ | exact Kd.N_nil _ _ _ _ _ | exact Kd.V_nil _ _ _ _ _ | exact Kd.Q_nil _ _ _ _ _ | exact Kd.S_nil _ _ _ _ _, by repeat (first | (with_reducible first | exact HB.out | apply below_alloc | apply pw_below_drewN | apply below_drew1 | refine below_set ?_ GE840.out) | exact HB.out)⟩
                                          · rw [if_neg c59] at H
                                            have c59b0 : decide (0 ≤ (rd x8_3 (rd (rd_L1 t841 x11_2) x12_3))) = false := decide_eq_false c59
                                            clear c59
                                            obtain ⟨y875, hy875⟩ : ∃ y_ : List Int, y_ = (x8_3.set ((rd (rd_L1 t841 x11_2) x12_3) : Int).toNat x14_4) := ⟨_, rfl⟩
                                            replace H : (if (rd (rd_L1 t841 x11_2) x12_3) < (x9_3.length : Int) then (spec_l06Arrays.l2 k4 t841 t844 y875 (x9_3.set ((rd (rd_L1 t841 x11_2) x12_3) : Int).toNat x15_4) x11_2 (wrap64 (x12_3 + 1)) a0_0 l0_1) else (none)) = some (r1, r2, r3) := by first | (rw [hy875]; with_reducible exact H) | (have H2_ := (Option.bind_some _ _).symm.trans H; rw [hy875]; with_reducible exact H2_) | (have H2_ := (Option.bind_some _ _).symm.trans H; with_reducible exact H2_) | with_reducible exact H | (rw [hy875]; exact H) | exact H
                                            have Ny875 := Aside0.mk hy875
                                            clear hy875
                                            by_cases c75 : (rd (rd_L1 t841 x11_2) x12_3) < (x9_3.length : Int)
                                            · rw [if_pos c75] at H
                                              have c75b0 : decide ((rd (rd_L1 t841 x11_2) x12_3) < (x9_3.length : Int)) = true := decide_eq_true c75
                                              (try (have c75b0_hl8_1 := c75b0; rw [hl8_1] at c75b0_hl8_1))
                                              (try (have c75b0_hl8_2 := c75b0; rw [hl8_2] at c75b0_hl8_2))
                                              (try (have c75b0_hl8_3 := c75b0; rw [hl8_3] at c75b0_hl8_3))
                                              clear c75
                                              obtain ⟨y876, hy876⟩ : ∃ y_ : List Int, y_ = (x9_3.set ((rd (rd_L1 t841 x11_2) x12_3) : Int).toNat x15_4) := ⟨_, rfl⟩
                                              replace H : (spec_l06Arrays.l2 k4 t841 t844 y875 y876 x11_2 (wrap64 (x12_3 + 1)) a0_0 l0_1) = some (r1, r2, r3) := by first | (rw [hy876]; with_reducible exact H) | (have H2_ := (Option.bind_some _ _).symm.trans H; rw [hy876]; with_reducible exact H2_) | (have H2_ := (Option.bind_some _ _).symm.trans H; with_reducible exact H2_) | with_reducible exact H | (rw [hy876]; exact H) | exact H
                                              have Ny876 := Aside0.mk hy876
                                              clear hy876
                                              have H' := Aside0.mk H
                                              clear H
                                              have hcz77_0 : wr.cell? ⟨gb840, 0, none⟩ = some (.int .i64 a0_0) := (blk_cell BK840.out 0).trans rfl
                                              have hcz77_1 : wr.cell? ⟨gb840, 1, none⟩ = some (.slice A0_1 l0_1.length c0_1) := (blk_cell BK840.out 1).trans rfl
                                              have hfz77_0 := blk_frozen BK840.out 0
                                              have hfz77_1 := blk_frozen BK840.out 1
                                              have p870 : 0 ≤ ((rd (rd_L1 t841 x11_2) x12_3) : Int) := of_decide_eq_true (by first | (with_reducible assumption) | assumption)
                                              have q870 : (rd (rd_L1 t841 x11_2) x12_3) < (x8_3.length : Int) := of_decide_eq_true (by first | (with_reducible assumption) | assumption)
                                              obtain ⟨ad870, e870, hx870_0⟩ := Kd.at_int (Kd.R_reads' HO_8.out).2.2 (rd (rd_L1 t841 x11_2) x12_3) p870 q870
                                              cases e870
                                              replace p870 := eq_true p870
                                              replace q870 := eq_true q870
                                              have p74 : 0 ≤ ((rd (rd_L1 t841 x11_2) x12_3) : Int) := of_decide_eq_true (by first | (with_reducible assumption) | assumption)
                                              have q74 : ((rd (rd_L1 t841 x11_2) x12_3) : Int) < ((x8_3.length : Int) : Int) := of_decide_eq_true (by first | (with_reducible assumption) | assumption)
                                              obtain ⟨go74, co74, eo74, gb74, gl74, cl74, HG74⟩ := Kd.R_form HO_8.out (by omega)
                                              (first | cases eo74 | (injection eo74 with ea_ en_ ec_; (first | subst ea_ | (injection ea_ with ea_; subst ea_)); subst ec_; clear en_))
                                              have GB74 := Aside0.mk gb74
                                              have GG74 := Aside0.mk HG74
                                              clear gb74 gl74 HG74
                                              (first | simp only [add_plain] at hx870_0 | skip)
                                              (first | simp only [add_plain] at hx871_0 | skip)
                                              obtain ⟨hx74_0, hf74_0⟩ := Kd.R_celln 0 HO_8.out ((rd (rd_L1 t841 x11_2) x12_3) : Int) p74 q74
                                              replace p74 := eq_true p74
                                              replace q74 := eq_true q74
                                              have HP78 := Kd.R_putg HO_8.out ((rd (rd_L1 t841 x11_2) x12_3) : Int) x14_4
                                              go_wp2_with (first | ((with_reducible refine gate_store (t := 2) (p := 125) rfl ?_); refine store_event (t := 2) (p := 125) (v := ?vo_w79) (w1 := (wr.setCell ⟨go74, ((rd (rd_L1 t841 x11_2) x12_3) : Int).toNat, none⟩ (.int .i64 x14_4))) ?hg ?ho ?hn ?hr ?_; (case ho => rfl); (case hg => rfl); (case hn => rfl); (case hr => first | (go_simp; done) | (go_simp; rfl)); intro w79 hw; have hg : wr.grownBy w79 (some go74) := (by rw [hw]; exact HP78.2); have hp_ : Kd.R (Kd.int .i64) 2 w79 w.heap.size (fun k_ => some k_ ≠ (v850 : Value).ownBlock) (.slice (some ⟨go74, 0, none⟩) x8_3.length co18) y875 := (by rw [hw, Ny875.out]; exact HP78.1); clear HP78; have n0_ := Aside0.mk (Kd.S_after (v := (.slice (some ⟨go74, 0, none⟩) x8_3.length co18)) (v1 := (.slice (some ⟨go74, 0, none⟩) x8_3.length co18)) (ok := (fun k_ => some k_ ≠ (v850 : Value).ownBlock)) (by (with_reducible repeat (first | apply Kd.S_alloc | apply Kd.S_drewN | apply Kd.S_drew)); exact Kd.S_mono HO_5.out (fun _ hk => ⟨hk.2, hk.1⟩)) hg (.inl rfl)); have n1_ := Aside0.mk (hp_); have n2_ := Aside0.mk (Kd.R_after (v := (.slice (some ⟨go74, 0, none⟩) x8_3.length co18)) (v1 := (.slice (some ⟨go74, 0, none⟩) x8_3.length co18)) (ok := (fun _ => True)) (by (with_reducible repeat (first | apply Kd.R_alloc | apply Kd.R_drewN | apply Kd.R_drew)); exact Kd.R_mono HO_9.out (fun _ hk => ⟨trivial, hk⟩)) hg (.inl rfl)); have n3_ := Aside0.mk (blk_grown (g := gb840) (o := .cells #[.int .i64 a0_0, .slice A0_1 l0_1.length c0_1] 26 (0, 0)) (by (with_reducible repeat (first | refine blk_drewN ?_ _ | refine blk_drew ?_ | refine blk_alloc ?_ _)); exact BK840.out) hg (Kd.R_ne HO_8.out BK840.out (by decide))); have n4_ := Aside0.mk ((by rw [hw]; exact below_set (HB.out) GB74.out : Below w.heap.size w w79)); clear HO_5; clear HO_8; clear HO_9; clear BK840; clear HB; have HO_5 := n0_; have HO_8 := n1_; have HO_9 := n2_; have BK840 := n3_; have HB := n4_; clear n0_ n1_ n2_ n3_ n4_; clear hg hw hp_; have p76 : 0 ≤ ((rd (rd_L1 t841 x11_2) x12_3) : Int) := of_decide_eq_true (by first | (with_reducible assumption) | assumption); have q76 : ((rd (rd_L1 t841 x11_2) x12_3) : Int) < ((x9_3.length : Int) : Int) := of_decide_eq_true (by first | (with_reducible assumption) | assumption); obtain ⟨go76, co76, eo76, gb76, gl76, cl76, HG76⟩ := Kd.R_form HO_9.out (by omega); (first | cases eo76 | (injection eo76 with ea_ en_ ec_; (first | subst ea_ | (injection ea_ with ea_; subst ea_)); subst ec_; clear en_)); have GB76 := Aside0.mk gb76; have GG76 := Aside0.mk HG76; clear gb76 gl76 HG76; obtain ⟨hx76_0, hf76_0⟩ := Kd.R_celln 0 HO_9.out ((rd (rd_L1 t841 x11_2) x12_3) : Int) p76 q76; replace p76 := eq_true p76; replace q76 := eq_true q76; have n_ := Aside0.mk (Kd.R_mono (ok' := (fun k_ => some k_ ≠ (.slice (some ⟨go74, 0, none⟩) x8_3.length co18 : Value).ownBlock)) HO_9.out (fun k_ hk => hk.2)); clear HO_9; have HO_9 := n_; clear n_; obtain ⟨hy80_, hz80_⟩ := Kd.R_celln 0 HO_9.out ((rd (rd_L1 t841 x11_2) x12_3) : Int) (of_decide_eq_true (by first | (with_reducible assumption) | assumption)) (of_decide_eq_true (by first | (with_reducible assumption) | assumption)); have HP80 := Kd.R_putg HO_9.out ((rd (rd_L1 t841 x11_2) x12_3) : Int) x15_4) | ((with_reducible refine gate_store (t := 2) (p := 129) rfl ?_); refine store_event (t := 2) (p := 129) (v := ?vo_w81) (w1 := (w79.setCell ⟨go76, ((rd (rd_L1 t841 x11_2) x12_3) : Int).toNat, none⟩ (.int .i64 x15_4))) ?hg ?ho ?hn ?hr ?_; (case ho => rfl); (case hg => rfl); (case hn => rfl); (case hr => first | (go_simp; done) | (go_simp; rfl)); intro w81 hw; have hg : w79.grownBy w81 (some go76) := (by rw [hw]; exact HP80.2); have hp_ : Kd.R (Kd.int .i64) 2 w81 w.heap.size (fun k_ => some k_ ≠ (.slice (some ⟨go74, 0, none⟩) x8_3.length co18 : Value).ownBlock) (.slice (some ⟨go76, 0, none⟩) x9_3.length co76) y876 := (by rw [hw, Ny876.out]; exact HP80.1); clear HP80; have n0_ := Aside0.mk (Kd.S_after (v := (.slice (some ⟨go76, 0, none⟩) x9_3.length co76)) (v1 := (.slice (some ⟨go76, 0, none⟩) x9_3.length co76)) (ok := (fun k_ => some k_ ≠ (.slice (some ⟨go74, 0, none⟩) x8_3.length co18 : Value).ownBlock)) (by (with_reducible repeat (first | apply Kd.S_alloc | apply Kd.S_drewN | apply Kd.S_drew)); exact Kd.S_mono HO_5.out (fun _ hk => ⟨hk.2, hk.1⟩)) hg (.inl rfl)); have n1_ := Aside0.mk (Kd.R_after (v := (.slice (some ⟨go76, 0, none⟩) x9_3.length co76)) (v1 := (.slice (some ⟨go76, 0, none⟩) x9_3.length co76)) (ok := (fun _ => True)) (by (with_reducible repeat (first | apply Kd.R_alloc | apply Kd.R_drewN | apply Kd.R_drew)); exact Kd.R_mono HO_8.out (fun _ hk => ⟨trivial, hk⟩)) hg (.inl rfl)); have n2_ := Aside0.mk (hp_); have n3_ := Aside0.mk (blk_grown (g := gb840) (o := .cells #[.int .i64 a0_0, .slice A0_1 l0_1.length c0_1] 26 (0, 0)) (by (with_reducible repeat (first | refine blk_drewN ?_ _ | refine blk_drew ?_ | refine blk_alloc ?_ _)); exact BK840.out) hg (Kd.R_ne HO_9.out BK840.out (by decide))); have n4_ := Aside0.mk ((by rw [hw]; exact below_set (HB.out) GB76.out : Below w.heap.size w w81)); clear HO_5; clear HO_8; clear HO_9; clear BK840; clear HB; have HO_5 := n0_; have HO_8 := n1_; have HO_9 := n2_; have BK840 := n3_; have HB := n4_; clear n0_ n1_ n2_ n3_ n4_; clear hg hw hp_))
                                              (try simp only [← hl8_3])
                                              go_roundg k4
                                              case measure => have := HK1.out; have := HK2.out; have := HK3.out; have := HK4.out; omega
                                              case rel => exact ⟨(y875), (y876), (wrap64 (x12_3 + 1)), (by first | rfl | (simp; done) | (simp [*]; done)), H', ⟨by have := HK1.out; have := HK2.out; have := HK3.out; have := HK4.out; omega⟩, ⟨by (try simp only [hl8_1]); (try simp only [hl8_2]); (try simp only [hl8_3]); (with_reducible repeat (first | apply Kd.S_alloc | apply Kd.S_drewN | apply Kd.S_drew)); exact HO_5.out⟩, ⟨by (try simp only [hl8_1]); (try simp only [hl8_2]); (try simp only [hl8_3]); (with_reducible repeat (first | apply Kd.R_alloc | apply Kd.R_drewN | apply Kd.R_drew)); exact Kd.R_mono HO_8.out (fun _ hk => hk.2)⟩, ⟨by (try simp only [hl8_1]); (try simp only [hl8_2]); (try simp only [hl8_3]); (with_reducible repeat (first | apply Kd.R_alloc | apply Kd.R_drewN | apply Kd.R_drew)); exact HO_9.out⟩, ⟨by (try simp only [hl8_1]); (try simp only [hl8_2]); (try simp only [hl8_3]); (with_reducible repeat (first | refine blk_drewN ?_ _ | refine blk_drew ?_ | refine blk_alloc ?_ _)); exact BK840.out⟩, ⟨by repeat (first | (with_reducible first | exact HB.out | apply below_alloc | apply pw_below_drewN | apply below_drew1 | refine below_set ?_ GE840.out) | exact HB.out)⟩⟩
                                            · rw [if_neg c75] at H
                                              exact absurd H (by simp)
                                        · rw [if_neg c58] at H
                                          exact absurd H (by simp)
                                      · rw [if_neg c57] at H
                                        exact absurd H (by simp)
                              · rw [if_neg c35] at H
                                exact absurd H (by simp)
                            · rw [if_neg c34] at H
                              exact absurd H (by simp)
                          · rw [if_neg c33] at H
                            exact absurd H (by simp)
                        · rw [if_neg c32] at H
                          exact absurd H (by simp)
                      · rw [if_neg c31] at H
                        have c31b0 : decide (x12_3 < a0_0) = false := decide_eq_false c31
                        clear c31
                        have H' := Aside0.mk H
                        clear H
                        have hcz82_0 : wr.cell? ⟨gb840, 0, none⟩ = some (.int .i64 a0_0) := (blk_cell BK840.out 0).trans rfl
                        have hcz82_1 : wr.cell? ⟨gb840, 1, none⟩ = some (.slice A0_1 l0_1.length c0_1) := (blk_cell BK840.out 1).trans rfl
                        have hfz82_0 := blk_frozen BK840.out 0
                        have hfz82_1 := blk_frozen BK840.out 1
                        go_wp2
                        (try simp only [← hl8_2, ← hl8_3])
                        go_roundg k3
                        case measure => have := HK1.out; have := HK2.out; have := HK3.out; omega
                        case rel => exact ⟨(x8_3), (x9_3), (wrap64 (x11_2 + 1)), (by first | rfl | (simp; done) | (simp [*]; done)), H', ⟨by have := HK1.out; have := HK2.out; have := HK3.out; omega⟩, ⟨by (try simp only [hl8_1]); (try simp only [hl8_2]); (try simp only [hl8_3]); (with_reducible repeat (first | apply Kd.S_alloc | apply Kd.S_drewN | apply Kd.S_drew)); exact HO_5.out⟩, ⟨by (try simp only [hl8_1]); (try simp only [hl8_2]); (try simp only [hl8_3]); (with_reducible repeat (first | apply Kd.R_alloc | apply Kd.R_drewN | apply Kd.R_drew)); exact HO_8.out⟩, ⟨by (try simp only [hl8_1]); (try simp only [hl8_2]); (try simp only [hl8_3]); (with_reducible repeat (first | apply Kd.R_alloc | apply Kd.R_drewN | apply Kd.R_drew)); exact HO_9.out⟩, ⟨by (try simp only [hl8_1]); (try simp only [hl8_2]); (try simp only [hl8_3]); (with_reducible repeat (first | refine blk_drewN ?_ _ | refine blk_drew ?_ | refine blk_alloc ?_ _)); exact BK840.out⟩, ⟨by repeat (first | (with_reducible first | exact HB.out | apply below_alloc | apply pw_below_drewN | apply below_drew1 | refine below_set ?_ GE840.out) | exact HB.out)⟩⟩
                · rw [if_neg c29] at H
                  have c29b0 : decide (x11_2 < a0_0) = false := decide_eq_false c29
                  clear c29
                  by_cases c83 : 0 ≤ t844
                  · rw [if_pos c83] at H
                    have c83b0 := eq_true c83
                    have c83b1 : decide (0 ≤ t844) = true := decide_eq_true c83
                    clear c83
                    by_cases c84 : t844 ≤ (x8_2.length : Int)
                    · rw [if_pos c84] at H
                      have c84b0 := eq_true c84
                      have c84b1 : decide (t844 ≤ (x8_2.length : Int)) = true := decide_eq_true c84
                      (try (have c84b1_hl8_1 := c84b1; rw [hl8_1] at c84b1_hl8_1))
                      (try (have c84b1_hl8_2 := c84b1; rw [hl8_2] at c84b1_hl8_2))
                      clear c84
                      obtain ⟨y854, hy854⟩ : ∃ y_ : List Int, y_ = (x8_2.take (t844 : Int).toNat) := ⟨_, rfl⟩
                      replace H : ((spec_l01Own.f y854).bind fun t858 => (if 1 ≤ (x9_2.length : Int) then ((spec_l01Own.f (x9_2.drop 1)).bind fun t865 => (some (t858, t865, true))) else (none))) = some (r1, r2, r3) := by first | (rw [hy854]; with_reducible exact H) | (have H2_ := (Option.bind_some _ _).symm.trans H; rw [hy854]; with_reducible exact H2_) | (have H2_ := (Option.bind_some _ _).symm.trans H; with_reducible exact H2_) | with_reducible exact H | (rw [hy854]; exact H) | exact H
                      have Ny854 := Aside0.mk hy854
                      clear hy854
                      replace H := Option.bind_eq_some_iff.mp H
                      obtain ⟨t858, A850, H⟩ := H
                      replace H : (if 1 ≤ (x9_2.length : Int) then ((spec_l01Own.f (x9_2.drop 1)).bind fun t865 => (some (t858, t865, true))) else (none)) = some (r1, r2, r3) := H
                      have A85 := Aside0.mk A850
                      clear A850
                      by_cases c86 : 1 ≤ (x9_2.length : Int)
                      · rw [if_pos c86] at H
                        have c86b0 := eq_true c86
                        have c86b1 : decide (1 ≤ (x9_2.length : Int)) = true := decide_eq_true c86
                        (try (have c86b1_hl8_1 := c86b1; rw [hl8_1] at c86b1_hl8_1))
                        (try (have c86b1_hl8_2 := c86b1; rw [hl8_2] at c86b1_hl8_2))
                        clear c86
                        obtain ⟨y861, hy861⟩ : ∃ y_ : List Int, y_ = (x9_2.drop 1) := ⟨_, rfl⟩
                        replace H : ((spec_l01Own.f y861).bind fun t865 => (some (t858, t865, true))) = some (r1, r2, r3) := by first | (rw [hy861]; with_reducible exact H) | (have H2_ := (Option.bind_some _ _).symm.trans H; rw [hy861]; with_reducible exact H2_) | (have H2_ := (Option.bind_some _ _).symm.trans H; with_reducible exact H2_) | with_reducible exact H | (rw [hy861]; exact H) | exact H
                        have Ny861 := Aside0.mk hy861
                        clear hy861
                        replace H := Option.bind_eq_some_iff.mp H
                        obtain ⟨t865, A870, H⟩ := H
                        replace H : (some (t858, t865, true)) = some (r1, r2, r3) := H
                        have A87 := Aside0.mk A870
                        clear A870
                        simp only [Option.some.injEq, Prod.mk.injEq] at H
                        obtain ⟨rfl, rfl, rfl⟩ := H
                        have hcz88_0 : wr.cell? ⟨gb840, 0, none⟩ = some (.int .i64 a0_0) := (blk_cell BK840.out 0).trans rfl
                        have hcz88_1 : wr.cell? ⟨gb840, 1, none⟩ = some (.slice A0_1 l0_1.length c0_1) := (blk_cell BK840.out 1).trans rfl
                        have hfz88_0 := blk_frozen BK840.out 0
                        have hfz88_1 := blk_frozen BK840.out 1
                        try go_wp2
                        have n0_ := Aside0.mk (Kd.S_drew HO_5.out)
                        have n1_ := Aside0.mk (Kd.R_drew HO_8.out)
                        have n2_ := Aside0.mk (Kd.R_drew HO_9.out)
                        have n3_ := Aside0.mk (blk_drew BK840.out)
                        have n4_ := Aside0.mk (below_drew1 HB.out)
                        clear HO_5
                        clear HO_8
                        clear HO_9
                        clear BK840
                        clear HB
                        have HO_5 := n0_
                        have HO_8 := n1_
                        have HO_9 := n2_
                        have BK840 := n3_
                        have HB := n4_
                        clear n0_ n1_ n2_ n3_ n4_
                        have q90 : (t844 : Int) ≤ ((x8_2.length : Int) : Int) := of_decide_eq_true (by first | (with_reducible assumption) | assumption)
                        obtain ⟨i090, hi090, _, hsz90, _⟩ := info_parts info2
                        have hroom90 : x8_2.length ≤ co18 := (Kd.R_reads' HO_8.out).2.1
                        have hC90 : Kd.C (Kd.int .i64) _ Ao18 x8_2.length x8_2 := (Kd.R_reads' HO_8.out).2.2
                        have hcut90 := cut_to (P := Tryd.prog) 22 2 .i64 Tryd.underlying22 hi090 Ao18 x8_2.length co18 t844 (of_decide_eq_true (by first | (with_reducible assumption) | assumption)) q90 hroom90
                        have hr90 := Kd.C_take (m := (t844 : Int).toNat) hC90 (by omega)
                        have hy90 : y854.length = (t844 : Int).toNat := (by rw [Ny854.out, List.length_take]; omega)
                        rw [← Ny854.out] at hr90
                        rw [← hy90] at hcut90
                        have HR857 := Aside0.mk hr90
                        have HC857 := Aside0.mk (show y854.length ≤ co18 from by omega)
                        clear hr90 hC90 hroom90 hi090 hsz90
                        have KY90 := Aside0.mk hy90
                        clear hy90
                        have KL90 := Aside0.mk (show (t844 : Int).toNat ≤ x8_2.length from by omega)
                        replace q90 := eq_true q90
                        obtain ⟨Ao92, co92, eo92⟩ := Kd.R_slice HO_9.out
                        (first | subst eo92 | (injection eo92 with f1_ f2_ f3_; have f4_ := f1_.symm; have f5_ := f3_.symm; clear f1_ f2_ f3_; subst f4_; subst f5_))
                        have q91 : (1 : Int) ≤ ((x9_2.length : Int) : Int) := of_decide_eq_true (by first | (with_reducible assumption) | assumption)
                        obtain ⟨i091, hi091, _, hsz91, _⟩ := info_parts info2
                        have hroom91 : x9_2.length ≤ co92 := (Kd.R_reads' HO_9.out).2.1
                        have hC91 : Kd.C (Kd.int .i64) _ Ao92 x9_2.length x9_2 := (Kd.R_reads' HO_9.out).2.2
                        have hcut91 := cut_from (P := Tryd.prog) 22 2 .i64 Tryd.underlying22 hi091 1 hsz91 Ao92 x9_2.length co92 1 (by omega) q91
                        have hr91 := Kd.C_drop (m := (1 : Int).toNat) (c := co92) hC91 (by omega) hroom91
                        obtain ⟨A91, hA91⟩ : ∃ A1, A1 = (if co92 = (1 : Int).toNat then Ao92 else (Ao92 : Option Addr).map (·.add ((1 : Int).toNat * 1))) := ⟨_, rfl⟩
                        obtain ⟨c91, hc91⟩ : ∃ c1, c1 = co92 - (1 : Int).toNat := ⟨_, rfl⟩
                        have hy91 : y861.length = x9_2.length - (1 : Int).toNat := (by rw [Ny861.out, List.length_drop] <;> omega)
                        rw [show (x9_2).drop (1 : Int).toNat = y861 from Ny861.out.symm] at hr91
                        replace hr91 : Kd.C (Kd.int .i64) _ A91 y861.length y861 := (by rw [hA91]; exact hr91)
                        rw [← hy91, ← hA91, ← hc91] at hcut91
                        have HR864 := Aside0.mk hr91
                        have HC864 := Aside0.mk (show y861.length ≤ c91 from by rw [hy91, hc91]; exact Nat.sub_le_sub_right hroom91 _)
                        clear hr91 hC91 hroom91 hi091 hsz91 hc91
                        have KY91 := Aside0.mk hy91
                        have KA91 := Aside0.mk hA91
                        clear hy91 hA91
                        have KL91 := Aside0.mk (show 1 ≤ x9_2.length from by omega)
                        replace q91 := eq_true q91
                        refine start_ (n := 10) (S := fun w' => True) (ds := []) #[false, false, false, false, false, false, false, false, false, false] (by kernel_rfl) rfl rfl trivial (fun hHeld => ?_); refine with_tabW spec_l06Arrays.tab29 spec_l06Arrays.bits29 (fun HT_ HW_ => ?_)
                        generalize wr.drew = w89 at HO_5 HO_8 HO_9 BK840 HB HR857 HR864 hHeld ⊢
                        refine pure_ (i := 0) (N := some 130) (v := ?_) (a' := ?_) #[true, false, false, false, false, false, false, false, false, false] rfl rfl (any_of HT_.out (by kernel_rfl)) (fun _ _ _ h => h) (Or.inl ⟨by rfl, ?_⟩) ?_ ?_
                        rotate_left
                        · intro w'
                          go_simp
                          with_reducible rfl
                        rotate_left
                        · simp only [Act.put, List.setIfInBounds_toArray, List.set_cons_zero, List.set_cons_succ, i64_w, i32_w]
                          rfl
                        refine pure_ (i := 1) (N := some 131) (v := ?_) (a' := ?_) #[true, true, false, false, false, false, false, false, false, false] rfl rfl (any_of HT_.out (by kernel_rfl)) (fun _ _ _ h => h) (Or.inl ⟨by rfl, ?_⟩) ?_ ?_
                        rotate_left
                        · intro w'
                          go_simp
                          with_reducible rfl
                        rotate_left
                        · simp only [Act.put, List.setIfInBounds_toArray, List.set_cons_zero, List.set_cons_succ, i64_w, i32_w]
                          rfl
                        refine pure_ (i := 2) (N := some 132) (v := ?_) (a' := ?_) #[true, true, true, false, false, false, false, false, false, false] rfl rfl (any_of HT_.out (by kernel_rfl)) (fun _ _ _ h => h) (Or.inl ⟨by rfl, ?_⟩) ?_ ?_
                        rotate_left
                        · intro w'
                          go_simp
                          with_reducible rfl
                        rotate_left
                        · simp only [Act.put, List.setIfInBounds_toArray, List.set_cons_zero, List.set_cons_succ, i64_w, i32_w]
                          rfl
                        refine pure_ (i := 4) (N := some 134) (v := ?_) (a' := ?_) #[true, true, true, false, true, false, false, false, false, false] rfl rfl (any_of HT_.out (by kernel_rfl)) (fun _ _ _ h => h) (Or.inl ⟨by rfl, ?_⟩) ?_ ?_
                        rotate_left
                        · intro w'
                          go_simp
                          with_reducible rfl
                        rotate_left
                        · simp only [Act.put, List.setIfInBounds_toArray, List.set_cons_zero, List.set_cons_succ, i64_w, i32_w]
                          rfl
                        refine pure_ (i := 5) (N := some 135) (v := ?_) (a' := ?_) #[true, true, true, false, true, true, false, false, false, false] rfl rfl (any_of HT_.out (by kernel_rfl)) (fun _ _ _ h => h) (Or.inl ⟨by rfl, ?_⟩) ?_ ?_
                        rotate_left
                        · intro w'
                          go_simp
                          with_reducible rfl
                        rotate_left
                        · simp only [Act.put, List.setIfInBounds_toArray, List.set_cons_zero, List.set_cons_succ, i64_w, i32_w]
                          rfl
                        refine one_ (i := 3) (N := some 133) #[true, true, true, true, true, true, false, false, false, false] rfl rfl (one_of HT_.out (by kernel_rfl)) (by decide) (fun K hK => ?_)
                        refine goes_ Tryd.func125 (by kernel_rfl) rfl #[.slice Ao18 y854.length co18] (by rfl) rfl rfl (by (try simp only [List.map_toArray, List.map_cons, List.map_nil]); first | done | rfl | (simp only [List.length_drop, List.length_take]; rfl)) ?_
                        with_reducible refine (spec_l01Own.calls _ _ y854 t858 _ ?side1 ?side2 A85.out).mono ?_
                        (case side1 => repeat (first | exact (by repeat (first | (with_reducible exact HR857.out) | (with_reducible refine Kd.C_alloc ?_ _) | (with_reducible refine Kd.C_drewN ?_ _) | (with_reducible refine Kd.C_drew ?_) | exact HR857.out)) | (with_reducible refine Kd.C_alloc ?_ _) | (with_reducible refine Kd.C_drewN ?_ _) | (with_reducible refine Kd.C_drew ?_)))
                        (case side2 => exact HC857.out)
                        rintro e w93 ⟨v859, rfl, ho0, hb⟩
                        refine ⟨_, rfl, ?_⟩
                        have n0_ := Aside0.mk (Kd.S_elder' (by (with_reducible repeat (first | apply Kd.S_alloc | apply Kd.S_drewN | apply Kd.S_drew)); exact HO_5.out) (Kd.R_base ho0) hb)
                        have n1_ := Aside0.mk (Kd.R_elder' (by (with_reducible repeat (first | apply Kd.R_alloc | apply Kd.R_drewN | apply Kd.R_drew)); exact HO_8.out) (Kd.R_base ho0) hb)
                        have n2_ := Aside0.mk (Kd.R_elder' (by (with_reducible repeat (first | apply Kd.R_alloc | apply Kd.R_drewN | apply Kd.R_drew)); exact HO_9.out) (Kd.R_base ho0) hb)
                        have n3_ := Aside0.mk (Kd.R_lower (Kd.R_new' (Kd.R_new' ho0 (Kd.R_lt (by (with_reducible repeat (first | apply Kd.R_alloc | apply Kd.R_drewN | apply Kd.R_drew)); exact HO_8.out))) (Kd.R_lt (by (with_reducible repeat (first | apply Kd.R_alloc | apply Kd.R_drewN | apply Kd.R_drew)); exact HO_9.out))) (below_size (by repeat (first | (with_reducible first | exact HB.out | apply below_alloc | apply pw_below_drewN | apply below_drew1 | refine below_set ?_ GE840.out) | exact HB.out))))
                        have n4_ := Aside0.mk (blk_below (g := gb840) (o := .cells #[.int .i64 a0_0, .slice A0_1 l0_1.length c0_1] 26 (0, 0)) (by (with_reducible repeat (first | refine blk_drewN ?_ _ | refine blk_drew ?_ | refine blk_alloc ?_ _)); exact BK840.out) hb)
                        have n5_ := Aside0.mk (Kd.C_below (by repeat (first | (with_reducible exact HR857.out) | (with_reducible refine Kd.C_alloc ?_ _) | (with_reducible refine Kd.C_drewN ?_ _) | (with_reducible refine Kd.C_drew ?_) | exact HR857.out)) hb)
                        have n6_ := Aside0.mk (Kd.C_below (by repeat (first | (with_reducible exact HR864.out) | (with_reducible refine Kd.C_alloc ?_ _) | (with_reducible refine Kd.C_drewN ?_ _) | (with_reducible refine Kd.C_drew ?_) | exact HR864.out)) hb)
                        have n7_ := Aside0.mk (below_step (by repeat (first | (with_reducible first | exact HB.out | apply below_alloc | apply pw_below_drewN | apply below_drew1 | refine below_set ?_ GE840.out) | exact HB.out)) hb)
                        clear HO_5
                        clear HO_8
                        clear HO_9
                        clear BK840
                        clear HR857
                        clear HR864
                        clear HB
                        have HO_5 := n0_
                        have HO_8 := n1_
                        have HO_9 := n2_
                        have HO860 := n3_
                        have BK840 := n4_
                        have HR857 := n5_
                        have HR864 := n6_
                        have HB := n7_
                        clear n0_ n1_ n2_ n3_ n4_ n5_ n6_ n7_
                        (try clear hb)
                        (try clear hb2)
                        (try clear hk)
                        (try clear hi)
                        (try clear ho0)
                        refine hK.out _ _ trivial (fun hHeld => ?_)
                        clear hK K
                        refine norm_ (a' := ?_) ?_ ?_
                        rotate_left
                        · show Act.put _ (some 133) _ = _
                          simp only [Act.put, List.setIfInBounds_toArray, List.set_cons_zero, List.set_cons_succ, i64_w, i32_w]
                          rfl
                        refine one_ (i := 6) (N := some 136) #[true, true, true, true, true, true, true, false, false, false] rfl rfl (one_of HT_.out (by kernel_rfl)) (by decide) (fun K hK => ?_)
                        refine goes_ Tryd.func125 (by kernel_rfl) rfl #[.slice A91 y861.length c91] (by rfl) rfl rfl (by (try simp only [List.map_toArray, List.map_cons, List.map_nil]); first | done | rfl | (simp only [List.length_drop, List.length_take]; rfl)) ?_
                        with_reducible refine (spec_l01Own.calls _ _ y861 t865 _ ?side1 ?side2 A87.out).mono ?_
                        (case side1 => repeat (first | exact (by repeat (first | (with_reducible exact HR864.out) | (with_reducible refine Kd.C_alloc ?_ _) | (with_reducible refine Kd.C_drewN ?_ _) | (with_reducible refine Kd.C_drew ?_) | exact HR864.out)) | (with_reducible refine Kd.C_alloc ?_ _) | (with_reducible refine Kd.C_drewN ?_ _) | (with_reducible refine Kd.C_drew ?_)))
                        (case side2 => exact HC864.out)
                        rintro e w94 ⟨v866, rfl, ho0, hb⟩
                        refine ⟨_, rfl, ?_⟩
                        have n0_ := Aside0.mk (Kd.S_elder' (by (with_reducible repeat (first | apply Kd.S_alloc | apply Kd.S_drewN | apply Kd.S_drew)); exact HO_5.out) (Kd.R_base ho0) hb)
                        have n1_ := Aside0.mk (Kd.R_elder' (by (with_reducible repeat (first | apply Kd.R_alloc | apply Kd.R_drewN | apply Kd.R_drew)); exact HO_8.out) (Kd.R_base ho0) hb)
                        have n2_ := Aside0.mk (Kd.R_elder' (by (with_reducible repeat (first | apply Kd.R_alloc | apply Kd.R_drewN | apply Kd.R_drew)); exact HO_9.out) (Kd.R_base ho0) hb)
                        have n3_ := Aside0.mk (Kd.R_elder' (by (with_reducible repeat (first | apply Kd.R_alloc | apply Kd.R_drewN | apply Kd.R_drew)); exact HO860.out) (Kd.R_base ho0) hb)
                        have n4_ := Aside0.mk (Kd.R_lower (Kd.R_new' (Kd.R_new' (Kd.R_new' ho0 (Kd.R_lt (by (with_reducible repeat (first | apply Kd.R_alloc | apply Kd.R_drewN | apply Kd.R_drew)); exact HO_8.out))) (Kd.R_lt (by (with_reducible repeat (first | apply Kd.R_alloc | apply Kd.R_drewN | apply Kd.R_drew)); exact HO_9.out))) (Kd.R_lt (by (with_reducible repeat (first | apply Kd.R_alloc | apply Kd.R_drewN | apply Kd.R_drew)); exact HO860.out))) (below_size (by repeat (first | (with_reducible first | exact HB.out | apply below_alloc | apply pw_below_drewN | apply below_drew1 | refine below_set ?_ GE840.out) | exact HB.out))))
                        have n5_ := Aside0.mk (blk_below (g := gb840) (o := .cells #[.int .i64 a0_0, .slice A0_1 l0_1.length c0_1] 26 (0, 0)) (by (with_reducible repeat (first | refine blk_drewN ?_ _ | refine blk_drew ?_ | refine blk_alloc ?_ _)); exact BK840.out) hb)
                        have n6_ := Aside0.mk (Kd.C_below (by repeat (first | (with_reducible exact HR857.out) | (with_reducible refine Kd.C_alloc ?_ _) | (with_reducible refine Kd.C_drewN ?_ _) | (with_reducible refine Kd.C_drew ?_) | exact HR857.out)) hb)
                        have n7_ := Aside0.mk (Kd.C_below (by repeat (first | (with_reducible exact HR864.out) | (with_reducible refine Kd.C_alloc ?_ _) | (with_reducible refine Kd.C_drewN ?_ _) | (with_reducible refine Kd.C_drew ?_) | exact HR864.out)) hb)
                        have n8_ := Aside0.mk (below_step (by repeat (first | (with_reducible first | exact HB.out | apply below_alloc | apply pw_below_drewN | apply below_drew1 | refine below_set ?_ GE840.out) | exact HB.out)) hb)
                        clear HO_5
                        clear HO_8
                        clear HO_9
                        clear HO860
                        clear BK840
                        clear HR857
                        clear HR864
                        clear HB
                        have HO_5 := n0_
                        have HO_8 := n1_
                        have HO_9 := n2_
                        have HO860 := n3_
                        have HO867 := n4_
                        have BK840 := n5_
                        have HR857 := n6_
                        have HR864 := n7_
                        have HB := n8_
                        clear n0_ n1_ n2_ n3_ n4_ n5_ n6_ n7_ n8_
                        (try clear hb)
                        (try clear hb2)
                        (try clear hk)
                        (try clear hi)
                        (try clear ho0)
                        refine hK.out _ _ trivial (fun hHeld => ?_)
                        clear hK K
                        refine norm_ (a' := ?_) ?_ ?_
                        rotate_left
                        · show Act.put _ (some 136) _ = _
                          simp only [Act.put, List.setIfInBounds_toArray, List.set_cons_zero, List.set_cons_succ, i64_w, i32_w]
                          rfl
                        refine pure_ (i := 7) (N := some 2) (v := ?_) (a' := ?_) #[true, true, true, true, true, true, true, true, false, false] rfl rfl (any_of HT_.out (by kernel_rfl)) (fun _ _ _ h => h) (Or.inl ⟨by rfl, ?_⟩) ?_ ?_
                        rotate_left
                        · intro w'
                          go_simp
                          with_reducible rfl
                        rotate_left
                        · simp only [Act.put, List.setIfInBounds_toArray, List.set_cons_zero, List.set_cons_succ, i64_w, i32_w]
                          rfl
                        refine pure_ (i := 8) (N := some 3) (v := ?_) (a' := ?_) #[true, true, true, true, true, true, true, true, true, false] rfl rfl (any_of HT_.out (by kernel_rfl)) (fun _ _ _ h => h) (Or.inl ⟨by rfl, ?_⟩) ?_ ?_
                        rotate_left
                        · intro w'
                          go_simp
                          with_reducible rfl
                        rotate_left
                        · simp only [Act.put, List.setIfInBounds_toArray, List.set_cons_zero, List.set_cons_succ, i64_w, i32_w]
                          rfl
                        refine pure_ (i := 9) (N := some 4) (v := ?_) (a' := ?_) #[true, true, true, true, true, true, true, true, true, true] rfl rfl (any_of HT_.out (by kernel_rfl)) (fun _ _ _ h => h) (Or.inl ⟨by rfl, ?_⟩) ?_ ?_
                        rotate_left
                        · intro w'
                          go_simp
                          with_reducible rfl
                        rotate_left
                        · simp only [Act.put, List.setIfInBounds_toArray, List.set_cons_zero, List.set_cons_succ, i64_w, i32_w]
                          rfl
                        refine done_ (done_of HT_.out (by kernel_rfl)) ?_
                        try go_wp2
                        go_ret3
                        exact ⟨_, _, by first | rfl | (simp [errW_none, errW_some] <;> rfl) | (simp only [← hji4]; first | rfl | (simp [errW_none, errW_some] <;> rfl)) | (simp [*, errW_none, errW_some] <;> rfl), by (with_reducible repeat (first | apply Kd.R_alloc | apply Kd.R_drewN | apply Kd.R_drew)); exact Kd.R_mono HO860.out (fun _ hk => hk.2), by (with_reducible repeat (first | apply Kd.R_alloc | apply Kd.R_drewN | apply Kd.R_drew)); exact Kd.R_mono HO867.out (fun _ hk => hk.2), by repeat (first | (with_reducible first | exact HB.out | apply below_alloc | apply pw_below_drewN | apply below_drew1 | refine below_set ?_ GE840.out) | exact HB.out)⟩
                      · rw [if_neg c86] at H
                        exact absurd H (by simp)
                    · rw [if_neg c84] at H
                      exact absurd H (by simp)
                  · rw [if_neg c83] at H
                    exact absurd H (by simp)
    · rw [if_neg c6] at H
      exact absurd H (by simp)
  · rw [if_neg c5] at H
    exact absurd H (by simp)

end Go.Proofs.YtkmpkcofddpdgaaDoor.P
