-- Printed by a program of this workplace (wip/xp/xp.py) over the kit's print.
import Derived.Test.YtkmpkcofddpdgaaDoorP0
import Derived.Test.YtkmpkcofddpdgaaDoorP16
import Derived.Test.YtkmpkcofddpdgaaDoorP19
import Derived.Test.YtkmpkcofddpdgaaDoorP62
import Derived.Test.YtkmpkcofddpdgaaDoorP63
namespace Go.Proofs.YtkmpkcofddpdgaaDoor.P
open Go.RowKit Go.Proofs.YtkmpkcofddpdgaaDoorW.PrintWords Go.Proofs.YtkmpkcofddpdgaaDoorW.PrintLast Go.Proofs.YtkmpkcofddpdgaaDoorW.PrintMore
attribute [local go_sem] max2_int min2_int max_two min_two max_three min_three max_four min_four   -- for this text's walks alone
set_option linter.unusedVariables false
set_option linter.unusedSimpArgs false

/-! ### impl_Graph_arrays: function 79 -/
mutual
def impl_Graph_arrays.l0 : Nat → Int → List Int → List Int → Int → Int → Int → List Int → Option (List Int × List Int × Bool)
  | 0, _, _, _, _, _, _, _ => none
  | k + 1, x5, x6, x7, x24, x25, x894000, x894001 => if x25 < x24 then ((impl_Graph_distances.f k x894000 x894001 x25).bind fun t904 => (impl_Graph_arrays.l1 k x5 x6 x7 t904 x24 x25 t904 (t904.length : Int) 0 x894000 x894001)) else (some (x6, x7, true))
def impl_Graph_arrays.l1 : Nat → Int → List Int → List Int → List Int → Int → Int → List Int → Int → Int → Int → List Int → Option (List Int × List Int × Bool)
  | 0, _, _, _, _, _, _, _, _, _, _, _ => none
  | k + 1, x5, x6, x7, x9, x24, x25, x31, x32, x33, x894000, x894001 => if x33 < x32 then (if 0 ≤ x33 then (if x33 < (x31.length : Int) then (if x33 < (x894001.length : Int) then ((impl_list.f k (rd x894001 x33)).bind fun t909 => (impl_Graph_arrays.l2 k x5 x6 x7 x9 (rd x31 x33) 0 0 x24 x25 x31 x32 x33 t909 (t909.length : Int) 0 x894000 x894001)) else (none)) else (none)) else (none)) else (impl_Graph_arrays.l0 k x5 x6 x7 x24 (wrap64 (x25 + 1)) x894000 x894001)
def impl_Graph_arrays.l2 : Nat → Int → List Int → List Int → List Int → Int → Int → Int → Int → Int → List Int → Int → Int → List Int → Int → Int → Int → List Int → Option (List Int × List Int × Bool)
  | 0, _, _, _, _, _, _, _, _, _, _, _, _, _, _, _, _, _ => none
  | k + 1, x5, x6, x7, x9, x11, x12, x13, x24, x25, x31, x32, x33, x43, x44, x45, x894000, x894001 => if x45 < x44 then (if 0 ≤ x45 then (if x45 < (x43.length : Int) then (if 0 ≤ (rd x43 x45) then (if (rd x43 x45) < (x9.length : Int) then (if (rd x9 (rd x43 x45)) = (wrap64 (x11 + 1)) then (impl_Graph_arrays.l2 k x5 x6 x7 x9 x11 (wrap64 (x12 + 1)) x13 x24 x25 x31 x32 x33 x43 x44 (wrap64 (x45 + 1)) x894000 x894001) else (if (rd x9 (rd x43 x45)) = (wrap64 (x11 - 1)) then (impl_Graph_arrays.l2 k x5 x6 x7 x9 x11 x12 (wrap64 (x13 + 1)) x24 x25 x31 x32 x33 x43 x44 (wrap64 (x45 + 1)) x894000 x894001) else (impl_Graph_arrays.l2 k x5 x6 x7 x9 x11 x12 x13 x24 x25 x31 x32 x33 x43 x44 (wrap64 (x45 + 1)) x894000 x894001))) else (none)) else (none)) else (none)) else (none)) else (if x11 < x5 then (if 0 ≤ x11 then (if x11 < (x6.length : Int) then (if (rd x6 x11) = 0 then ((some (x6.set (x11 : Int).toNat x12 : List Int)).bind fun y915 => (if x12 = (rd y915 x11) then (if x12 = 0 then (some (([] : List Int), ([] : List Int), false)) else (impl_Graph_arrays.j3 k x5 y915 x7 x9 x11 x13 x24 x25 x31 x32 x33 x894000 x894001)) else (some (([] : List Int), ([] : List Int), false)))) else (if x12 = (rd x6 x11) then (if x12 = 0 then (some (([] : List Int), ([] : List Int), false)) else (impl_Graph_arrays.j3 k x5 x6 x7 x9 x11 x13 x24 x25 x31 x32 x33 x894000 x894001)) else (some (([] : List Int), ([] : List Int), false)))) else (none)) else (none)) else (impl_Graph_arrays.j3 k x5 x6 x7 x9 x11 x13 x24 x25 x31 x32 x33 x894000 x894001))
def impl_Graph_arrays.j3 : Nat → Int → List Int → List Int → List Int → Int → Int → Int → Int → List Int → Int → Int → Int → List Int → Option (List Int × List Int × Bool)
  | 0, _, _, _, _, _, _, _, _, _, _, _, _, _ => none
  | k + 1, x5, x6, x7, x9, x11, x13, x24, x25, x31, x32, x33, x894000, x894001 => if x11 > 0 then (if 0 ≤ (wrap64 (x11 - 1)) then (if (wrap64 (x11 - 1)) < (x7.length : Int) then (if (rd x7 (wrap64 (x11 - 1))) = 0 then ((some (x7.set ((wrap64 (x11 - 1)) : Int).toNat x13 : List Int)).bind fun y919 => (if x13 = (rd y919 (wrap64 (x11 - 1))) then (impl_Graph_arrays.l1 k x5 x6 y919 x9 x24 x25 x31 x32 (wrap64 (x33 + 1)) x894000 x894001) else (some (([] : List Int), ([] : List Int), false)))) else (if x13 = (rd x7 (wrap64 (x11 - 1))) then (impl_Graph_arrays.l1 k x5 x6 x7 x9 x24 x25 x31 x32 (wrap64 (x33 + 1)) x894000 x894001) else (some (([] : List Int), ([] : List Int), false)))) else (none)) else (none)) else (impl_Graph_arrays.l1 k x5 x6 x7 x9 x24 x25 x31 x32 (wrap64 (x33 + 1)) x894000 x894001)
end
def impl_Graph_arrays.f (k : Nat) (a0_0 : Int) (l0_1 : List Int) : Option (List Int × List Int × Bool) := (impl_Graph_reaches.f k a0_0 l0_1).bind fun t894 => ((slices_Max_int64_int64.f k t894).bind fun t897 => (if 0 ≤ t897 then (if (t897 : Int).toNat ≤ 35184372088832 then (impl_Graph_arrays.l0 k t897 (List.replicate (t897 : Int).toNat 0) (List.replicate (t897 : Int).toNat 0) a0_0 0 a0_0 l0_1) else (none)) else (none)))
theorem impl_Graph_arrays.mono_l : ∀ k, (∀ y0 y1 y2 y3 y4 y5 y6, LeO (impl_Graph_arrays.l0 k y0 y1 y2 y3 y4 y5 y6) (impl_Graph_arrays.l0 (k + 1) y0 y1 y2 y3 y4 y5 y6)) ∧ (∀ y0 y1 y2 y3 y4 y5 y6 y7 y8 y9 y10, LeO (impl_Graph_arrays.l1 k y0 y1 y2 y3 y4 y5 y6 y7 y8 y9 y10) (impl_Graph_arrays.l1 (k + 1) y0 y1 y2 y3 y4 y5 y6 y7 y8 y9 y10)) ∧ (∀ y0 y1 y2 y3 y4 y5 y6 y7 y8 y9 y10 y11 y12 y13 y14 y15 y16, LeO (impl_Graph_arrays.l2 k y0 y1 y2 y3 y4 y5 y6 y7 y8 y9 y10 y11 y12 y13 y14 y15 y16) (impl_Graph_arrays.l2 (k + 1) y0 y1 y2 y3 y4 y5 y6 y7 y8 y9 y10 y11 y12 y13 y14 y15 y16)) ∧ (∀ y0 y1 y2 y3 y4 y5 y6 y7 y8 y9 y10 y11 y12, LeO (impl_Graph_arrays.j3 k y0 y1 y2 y3 y4 y5 y6 y7 y8 y9 y10 y11 y12) (impl_Graph_arrays.j3 (k + 1) y0 y1 y2 y3 y4 y5 y6 y7 y8 y9 y10 y11 y12))
  | 0 => ⟨fun _ _ _ _ _ _ _ r h => by simp [impl_Graph_arrays.l0] at h, fun _ _ _ _ _ _ _ _ _ _ _ r h => by simp [impl_Graph_arrays.l1] at h, fun _ _ _ _ _ _ _ _ _ _ _ _ _ _ _ _ _ r h => by simp [impl_Graph_arrays.l2] at h, fun _ _ _ _ _ _ _ _ _ _ _ _ _ r h => by simp [impl_Graph_arrays.j3] at h⟩
  | k + 1 => by
    obtain ⟨ih0, ih1, ih2, ih3⟩ := impl_Graph_arrays.mono_l k
    refine ⟨?_, ?_, ?_, ?_⟩
    · intro y0 y1 y2 y3 y4 y5 y6
      unfold impl_Graph_arrays.l0
      repeat' first
      | (with_reducible exact ih0 _ _ _ _ _ _ _)
      | (with_reducible exact ih1 _ _ _ _ _ _ _ _ _ _ _)
      | (with_reducible exact ih2 _ _ _ _ _ _ _ _ _ _ _ _ _ _ _ _ _)
      | (with_reducible exact ih3 _ _ _ _ _ _ _ _ _ _ _ _ _)
      | (with_reducible exact impl_Graph_distances.mono _ _ _ _)
      | (with_reducible exact impl_Graph_reaches.mono _ _ _)
      | (with_reducible exact impl_list.mono _ _)
      | (with_reducible exact slices_Max_int64_int64.mono _ _)
      | (with_reducible exact LeO.refl _)
      | (with_reducible exact LeO.none _)
      | (with_reducible refine LeO.ite ?_ ?_)
      | (with_reducible refine LeO.bind ?_ (fun _ => ?_))
      | exact ih0 _ _ _ _ _ _ _
      | exact ih1 _ _ _ _ _ _ _ _ _ _ _
      | exact ih2 _ _ _ _ _ _ _ _ _ _ _ _ _ _ _ _ _
      | exact ih3 _ _ _ _ _ _ _ _ _ _ _ _ _
      | exact impl_Graph_distances.mono _ _ _ _
      | exact impl_Graph_reaches.mono _ _ _
      | exact impl_list.mono _ _
      | exact slices_Max_int64_int64.mono _ _
      | exact LeO.none _
      | refine LeO.ite ?_ ?_
      | refine LeO.bind ?_ (fun _ => ?_)
    · intro y0 y1 y2 y3 y4 y5 y6 y7 y8 y9 y10
      unfold impl_Graph_arrays.l1
      repeat' first
      | (with_reducible exact ih0 _ _ _ _ _ _ _)
      | (with_reducible exact ih1 _ _ _ _ _ _ _ _ _ _ _)
      | (with_reducible exact ih2 _ _ _ _ _ _ _ _ _ _ _ _ _ _ _ _ _)
      | (with_reducible exact ih3 _ _ _ _ _ _ _ _ _ _ _ _ _)
      | (with_reducible exact impl_Graph_distances.mono _ _ _ _)
      | (with_reducible exact impl_Graph_reaches.mono _ _ _)
      | (with_reducible exact impl_list.mono _ _)
      | (with_reducible exact slices_Max_int64_int64.mono _ _)
      | (with_reducible exact LeO.refl _)
      | (with_reducible exact LeO.none _)
      | (with_reducible refine LeO.ite ?_ ?_)
      | (with_reducible refine LeO.bind ?_ (fun _ => ?_))
      | exact ih0 _ _ _ _ _ _ _
      | exact ih1 _ _ _ _ _ _ _ _ _ _ _
      | exact ih2 _ _ _ _ _ _ _ _ _ _ _ _ _ _ _ _ _
      | exact ih3 _ _ _ _ _ _ _ _ _ _ _ _ _
      | exact impl_Graph_distances.mono _ _ _ _
      | exact impl_Graph_reaches.mono _ _ _
      | exact impl_list.mono _ _
      | exact slices_Max_int64_int64.mono _ _
      | exact LeO.none _
      | refine LeO.ite ?_ ?_
      | refine LeO.bind ?_ (fun _ => ?_)
    · intro y0 y1 y2 y3 y4 y5 y6 y7 y8 y9 y10 y11 y12 y13 y14 y15 y16
      unfold impl_Graph_arrays.l2
      repeat' first
      | (with_reducible exact ih0 _ _ _ _ _ _ _)
      | (with_reducible exact ih1 _ _ _ _ _ _ _ _ _ _ _)
      | (with_reducible exact ih2 _ _ _ _ _ _ _ _ _ _ _ _ _ _ _ _ _)
      | (with_reducible exact ih3 _ _ _ _ _ _ _ _ _ _ _ _ _)
      | (with_reducible exact impl_Graph_distances.mono _ _ _ _)
      | (with_reducible exact impl_Graph_reaches.mono _ _ _)
      | (with_reducible exact impl_list.mono _ _)
      | (with_reducible exact slices_Max_int64_int64.mono _ _)
      | (with_reducible exact LeO.refl _)
      | (with_reducible exact LeO.none _)
      | (with_reducible refine LeO.ite ?_ ?_)
      | (with_reducible refine LeO.bind ?_ (fun _ => ?_))
      | exact ih0 _ _ _ _ _ _ _
      | exact ih1 _ _ _ _ _ _ _ _ _ _ _
      | exact ih2 _ _ _ _ _ _ _ _ _ _ _ _ _ _ _ _ _
      | exact ih3 _ _ _ _ _ _ _ _ _ _ _ _ _
      | exact impl_Graph_distances.mono _ _ _ _
      | exact impl_Graph_reaches.mono _ _ _
      | exact impl_list.mono _ _
      | exact slices_Max_int64_int64.mono _ _
      | exact LeO.none _
      | refine LeO.ite ?_ ?_
      | refine LeO.bind ?_ (fun _ => ?_)
    · intro y0 y1 y2 y3 y4 y5 y6 y7 y8 y9 y10 y11 y12
      unfold impl_Graph_arrays.j3
      repeat' first
      | (with_reducible exact ih0 _ _ _ _ _ _ _)
      | (with_reducible exact ih1 _ _ _ _ _ _ _ _ _ _ _)
      | (with_reducible exact ih2 _ _ _ _ _ _ _ _ _ _ _ _ _ _ _ _ _)
      | (with_reducible exact ih3 _ _ _ _ _ _ _ _ _ _ _ _ _)
      | (with_reducible exact impl_Graph_distances.mono _ _ _ _)
      | (with_reducible exact impl_Graph_reaches.mono _ _ _)
      | (with_reducible exact impl_list.mono _ _)
      | (with_reducible exact slices_Max_int64_int64.mono _ _)
      | (with_reducible exact LeO.refl _)
      | (with_reducible exact LeO.none _)
      | (with_reducible refine LeO.ite ?_ ?_)
      | (with_reducible refine LeO.bind ?_ (fun _ => ?_))
      | exact ih0 _ _ _ _ _ _ _
      | exact ih1 _ _ _ _ _ _ _ _ _ _ _
      | exact ih2 _ _ _ _ _ _ _ _ _ _ _ _ _ _ _ _ _
      | exact ih3 _ _ _ _ _ _ _ _ _ _ _ _ _
      | exact impl_Graph_distances.mono _ _ _ _
      | exact impl_Graph_reaches.mono _ _ _
      | exact impl_list.mono _ _
      | exact slices_Max_int64_int64.mono _ _
      | exact LeO.none _
      | refine LeO.ite ?_ ?_
      | refine LeO.bind ?_ (fun _ => ?_)
theorem impl_Graph_arrays.mono : ∀ a0 a1 k, LeO (impl_Graph_arrays.f k a0 a1) (impl_Graph_arrays.f (k + 1) a0 a1) := by
  intro a0 a1 k
  obtain ⟨ih0, ih1, ih2, ih3⟩ := impl_Graph_arrays.mono_l k
  unfold impl_Graph_arrays.f
  repeat' first
      | (with_reducible exact ih0 _ _ _ _ _ _ _)
      | (with_reducible exact ih1 _ _ _ _ _ _ _ _ _ _ _)
      | (with_reducible exact ih2 _ _ _ _ _ _ _ _ _ _ _ _ _ _ _ _ _)
      | (with_reducible exact ih3 _ _ _ _ _ _ _ _ _ _ _ _ _)
      | (with_reducible exact impl_Graph_distances.mono _ _ _ _)
      | (with_reducible exact impl_Graph_reaches.mono _ _ _)
      | (with_reducible exact impl_list.mono _ _)
      | (with_reducible exact slices_Max_int64_int64.mono _ _)
      | (with_reducible exact LeO.refl _)
      | (with_reducible exact LeO.none _)
      | (with_reducible refine LeO.ite ?_ ?_)
      | (with_reducible refine LeO.bind ?_ (fun _ => ?_))
      | exact ih0 _ _ _ _ _ _ _
      | exact ih1 _ _ _ _ _ _ _ _ _ _ _
      | exact ih2 _ _ _ _ _ _ _ _ _ _ _ _ _ _ _ _ _
      | exact ih3 _ _ _ _ _ _ _ _ _ _ _ _ _
      | exact impl_Graph_distances.mono _ _ _ _
      | exact impl_Graph_reaches.mono _ _ _
      | exact impl_list.mono _ _
      | exact slices_Max_int64_int64.mono _ _
      | exact LeO.none _
      | refine LeO.ite ?_ ?_
      | refine LeO.bind ?_ (fun _ => ?_)
set_option maxHeartbeats 8000000 in
set_option maxRecDepth 100000 in
theorem impl_Graph_arrays.calls (k : Nat) (a0_0 : Int) (A0_1 : Option Addr) (c0_1 : Nat) (l0_1 : List Int) (r1 : List Int) (r2 : List Int) (r3 : Bool) (w : World) (hr0_1 : Kd.C (Kd.int .i64) w A0_1 l0_1.length l0_1) (hc0_1 : l0_1.length ≤ c0_1) (hT : TabW w) (h : impl_Graph_arrays.f k a0_0 l0_1 = some (r1, r2, r3)) :
    Calls Tryd.prog 79 #[.agg #[.int .i64 a0_0, .slice A0_1 l0_1.length c0_1]] w fun e w' => ∃ v0_ v1_ : Value, e = .returned (.tuple #[v0_, v1_, .bool r3]) ∧ Kd.R (Kd.int .i64) 2 w' w.heap.size (fun k_ => some k_ ≠ (v1_ : Value).ownBlock) v0_ r1 ∧ Kd.R (Kd.int .i64) 2 w' w.heap.size (fun k_ => some k_ ≠ (v0_ : Value).ownBlock) v1_ r2 ∧ Below w.heap.size w w' := by
  have hu26 := Tryd.underlying26
  have HT := Aside0.mk hT
  clear hT
  have HR0_1 := Aside0.mk hr0_1
  have HC0_1 := Aside0.mk hc0_1
  clear hr0_1 hc0_1
  have HB := Aside0.mk (Below.refl w.heap.size w)
  have H : ((impl_Graph_reaches.f k a0_0 l0_1).bind fun t894 => ((slices_Max_int64_int64.f k t894).bind fun t897 => (if 0 ≤ t897 then (if (t897 : Int).toNat ≤ 35184372088832 then (impl_Graph_arrays.l0 k t897 (List.replicate (t897 : Int).toNat 0) (List.replicate (t897 : Int).toNat 0) a0_0 0 a0_0 l0_1) else (none)) else (none)))) = some (r1, r2, r3) := h
  clear h
  replace H := Option.bind_eq_some_iff.mp H
  obtain ⟨t894, A20, H⟩ := H
  replace H : ((slices_Max_int64_int64.f k t894).bind fun t897 => (if 0 ≤ t897 then (if (t897 : Int).toNat ≤ 35184372088832 then (impl_Graph_arrays.l0 k t897 (List.replicate (t897 : Int).toNat 0) (List.replicate (t897 : Int).toNat 0) a0_0 0 a0_0 l0_1) else (none)) else (none))) = some (r1, r2, r3) := H
  have A2 := Aside0.mk A20
  clear A20
  replace H := Option.bind_eq_some_iff.mp H
  obtain ⟨t897, A30, H⟩ := H
  replace H : (if 0 ≤ t897 then (if (t897 : Int).toNat ≤ 35184372088832 then (impl_Graph_arrays.l0 k t897 (List.replicate (t897 : Int).toNat 0) (List.replicate (t897 : Int).toNat 0) a0_0 0 a0_0 l0_1) else (none)) else (none)) = some (r1, r2, r3) := H
  have A3 := Aside0.mk A30
  clear A30
  by_cases c4 : 0 ≤ t897
  · rw [if_pos c4] at H
    have c4b0 := eq_true c4
    have c4b1 : decide (0 ≤ t897) = true := decide_eq_true c4
    clear c4
    by_cases c5 : (t897 : Int).toNat ≤ 35184372088832
    · rw [if_pos c5] at H
      have c5b0 := eq_true c5
      have c5b1 : decide ((t897 : Int).toNat ≤ 35184372088832) = true := decide_eq_true c5
      clear c5
      obtain ⟨y898, hy898⟩ : ∃ y_ : List Int, y_ = (List.replicate (t897 : Int).toNat 0) := ⟨_, rfl⟩
      replace H : (impl_Graph_arrays.l0 k t897 y898 (List.replicate (t897 : Int).toNat 0) a0_0 0 a0_0 l0_1) = some (r1, r2, r3) := by first | (rw [hy898]; with_reducible exact H) | (have H2_ := (Option.bind_some _ _).symm.trans H; rw [hy898]; with_reducible exact H2_) | (have H2_ := (Option.bind_some _ _).symm.trans H; with_reducible exact H2_) | with_reducible exact H | (rw [hy898]; exact H) | exact H
      have Ny898 := Aside0.mk hy898
      clear hy898
      obtain ⟨y901, hy901⟩ : ∃ y_ : List Int, y_ = (List.replicate (t897 : Int).toNat 0) := ⟨_, rfl⟩
      replace H : (impl_Graph_arrays.l0 k t897 y898 y901 a0_0 0 a0_0 l0_1) = some (r1, r2, r3) := by first | (rw [hy901]; with_reducible exact H) | (have H2_ := (Option.bind_some _ _).symm.trans H; rw [hy901]; with_reducible exact H2_) | (have H2_ := (Option.bind_some _ _).symm.trans H; with_reducible exact H2_) | with_reducible exact H | (rw [hy901]; exact H) | exact H
      have Ny901 := Aside0.mk hy901
      clear hy901
      have H' := Aside0.mk H
      clear H
      go_enter Tryd.func79, Tryd.ntmps79
      try go_wp2_with (first | ((with_reducible refine gate_dst (N := 1) rfl ?_); refine box_event ?hg (N := 1) ?hd (cs := #[.int .i64 a0_0, .slice A0_1 l0_1.length c0_1]) (t := 26) ?hr ?_; (case hd => rfl); (case hg => rfl); (case hr => first | (go_simp; done) | (go_simp; rfl)); intro gb893 hg w6 hbox hb; have n0_ := Aside0.mk (below_step (by repeat (first | (with_reducible first | exact HB.out | apply below_alloc | apply pw_below_drewN | apply below_drew1) | exact HB.out)) hb); have n1_ := Aside0.mk (hbox); have n2_ := Aside0.mk ((by rw [hg]; exact (below_size (by repeat (first | (with_reducible first | exact HB.out | apply below_alloc | apply pw_below_drewN | apply below_drew1) | exact HB.out))) : w.heap.size ≤ gb893)); have n3_ := Aside0.mk ((by rw [hg]; exact (below_size (by repeat (first | (with_reducible first | exact HB.out | apply below_alloc | apply pw_below_drewN | apply below_drew1) | exact HB.out))) : w.heap.size ≤ gb893)); clear HB; have HB := n0_; have BK893 := n1_; have GW893 := n2_; have GE893 := n3_; clear n0_ n1_ n2_ n3_; clear hb hbox hg; have hcz7_0 : w6.cell? ⟨gb893, 0, none⟩ = some (.int .i64 a0_0) := (blk_cell BK893.out 0).trans rfl; have hcz7_1 : w6.cell? ⟨gb893, 1, none⟩ = some (.slice A0_1 l0_1.length c0_1) := (blk_cell BK893.out 1).trans rfl; have hfz7_0 := blk_frozen BK893.out 0; have hfz7_1 := blk_frozen BK893.out 1) | ((with_reducible refine gate_callee (f := 89) rfl ?_); refine goesL_ (some 17) rfl rfl Tryd.func89 (by kernel_rfl) rfl #[.agg #[.int .i64 a0_0, .slice A0_1 l0_1.length c0_1]] rfl (by (try simp only [List.map_toArray, List.map_cons, List.map_nil]); first | done | rfl | (simp only [List.length_drop, List.length_take]; rfl)) ?_; (with_reducible refine (impl_Graph_reaches.calls k a0_0 _ _ l0_1 t894 _ ?side1 ?side2 ?side3 A2.out).mono ?_); (case side1 => repeat (first | exact (Kd.C_below HR0_1.out HB.out) | (with_reducible refine Kd.C_alloc ?_ _) | (with_reducible refine Kd.C_drewN ?_ _) | (with_reducible refine Kd.C_drew ?_))); (case side2 => exact HC0_1.out); (case side3 => exact TabW.below HT.out (by repeat (first | (with_reducible first | exact HB.out | apply below_alloc | apply pw_below_drewN | apply below_drew1 | refine below_set ?_ GE893.out) | exact HB.out))); rintro e w8 ⟨v895, rfl, ho0, hb⟩; refine ⟨_, rfl, ?_⟩; have n0_ := Aside0.mk (Kd.R_lower ho0 (below_size (by repeat (first | (with_reducible first | exact HB.out | apply below_alloc | apply pw_below_drewN | apply below_drew1 | refine below_set ?_ GE893.out) | exact HB.out)))); have n1_ := Aside0.mk (blk_below (g := gb893) (o := .cells #[.int .i64 a0_0, .slice A0_1 l0_1.length c0_1] 26 (0, 0)) (by (with_reducible repeat (first | refine blk_drewN ?_ _ | refine blk_drew ?_ | refine blk_alloc ?_ _)); exact BK893.out) hb); have n2_ := Aside0.mk (below_step (by repeat (first | (with_reducible first | exact HB.out | apply below_alloc | apply pw_below_drewN | apply below_drew1 | refine below_set ?_ GE893.out) | exact HB.out)) hb); clear BK893; clear HB; have HO896 := n0_; have BK893 := n1_; have HB := n2_; clear n0_ n1_ n2_; (try clear hb); (try clear hb2); (try clear hk); (try clear hi); (try clear ho0); obtain ⟨Ao9, co9, eo9⟩ := Kd.R_slice HO896.out; subst eo9) | ((with_reducible refine gate_callee (f := 88) rfl ?_); refine goesL_ (some 18) rfl rfl Tryd.func88 (by kernel_rfl) rfl #[.slice Ao9 t894.length co9] rfl (by (try simp only [List.map_toArray, List.map_cons, List.map_nil]); first | done | rfl | (simp only [List.length_drop, List.length_take]; rfl)) ?_; (with_reducible refine (slices_Max_int64_int64.calls k _ _ t894 t897 _ ?side1 ?side2 A3.out).mono ?_); (case side1 => repeat (first | exact (Kd.R_reads' HO896.out).2.2 | (with_reducible refine Kd.C_alloc ?_ _) | (with_reducible refine Kd.C_drewN ?_ _) | (with_reducible refine Kd.C_drew ?_))); (case side2 => exact (Kd.R_reads' HO896.out).2.1); rintro e w10 ⟨rfl, hb⟩; refine ⟨_, rfl, ?_⟩; have n0_ := Aside0.mk (Kd.R_below (by (with_reducible repeat (first | apply Kd.R_alloc | apply Kd.R_drewN | apply Kd.R_drew)); exact HO896.out) hb); have n1_ := Aside0.mk (blk_below (g := gb893) (o := .cells #[.int .i64 a0_0, .slice A0_1 l0_1.length c0_1] 26 (0, 0)) (by (with_reducible repeat (first | refine blk_drewN ?_ _ | refine blk_drew ?_ | refine blk_alloc ?_ _)); exact BK893.out) hb); have n2_ := Aside0.mk (below_step (by repeat (first | (with_reducible first | exact HB.out | apply below_alloc | apply pw_below_drewN | apply below_drew1 | refine below_set ?_ GE893.out) | exact HB.out)) hb); clear HO896; clear BK893; clear HB; have HO896 := n0_; have BK893 := n1_; have HB := n2_; clear n0_ n1_ n2_; (try clear hb); (try clear hb2); (try clear hk); (try clear hi)))
      have n0_ := Aside0.mk (Kd.R_drew HO896.out)
      have n1_ := Aside0.mk (blk_drew BK893.out)
      have n2_ := Aside0.mk (below_drew1 HB.out)
      clear HO896
      clear BK893
      clear HB
      have HO896 := n0_
      have BK893 := n1_
      have HB := n2_
      clear n0_ n1_ n2_
      refine start_ (n := 6) (S := fun w' => True) (ds := []) #[false, false, false, false, false, false] (by kernel_rfl) rfl rfl trivial (fun hHeld => ?_)
      generalize w10.drew = w11 at HO896 BK893 HB hHeld ⊢
      refine pure_ (i := 0) (N := some 19) (v := ?_) (a' := ?_) #[true, false, false, false, false, false] rfl rfl (by kernel_rfl) (fun _ _ _ h => h) (Or.inl ⟨by rfl, ?_⟩) ?_ ?_
      rotate_left
      · intro w'
        go_simp
        with_reducible rfl
      rotate_left
      · simp only [Act.put, List.setIfInBounds_toArray, List.set_cons_zero, List.set_cons_succ, i64_w, i32_w]
        rfl
      refine pure_ (i := 2) (N := some 21) (v := ?_) (a' := ?_) #[true, false, true, false, false, false] rfl rfl (by kernel_rfl) (fun _ _ _ h => h) (Or.inl ⟨by rfl, ?_⟩) ?_ ?_
      rotate_left
      · intro w'
        go_simp
        with_reducible rfl
      rotate_left
      · simp only [Act.put, List.setIfInBounds_toArray, List.set_cons_zero, List.set_cons_succ, i64_w, i32_w]
        rfl
      refine join_ (σ := Value × Value) 1 #[true, true, true, true, true, false] (fun s_ => [(20, s_.1), (22, s_.2), (6, s_.1)]) (fun s_ w' => (Kd.R (Kd.int .i64) 2 w' w.heap.size (fun k_ => some k_ ≠ (s_.1 : Value).ownBlock ∧ some k_ ≠ (s_.2 : Value).ownBlock) (.slice Ao9 t894.length co9) t894) ∧ (Kd.R (Kd.int .i64) 2 w' w.heap.size (fun k_ => some k_ ≠ (.slice Ao9 t894.length co9 : Value).ownBlock ∧ some k_ ≠ (s_.2 : Value).ownBlock) s_.1 y898) ∧ (Kd.R (Kd.int .i64) 2 w' w.heap.size (fun k_ => some k_ ≠ (.slice Ao9 t894.length co9 : Value).ownBlock ∧ some k_ ≠ (s_.1 : Value).ownBlock) s_.2 y901) ∧ (w'.heap[gb893]? = some (.cells #[.int .i64 a0_0, .slice A0_1 l0_1.length c0_1] 26 (0, 0))) ∧ (Below w.heap.size w w')) ?_ ?_
      rotate_left
      · intro hCont
        refine two_ (i := 1) (j := 3) (Ni := some 20) (Nj := some 22) #[true, true, true, false, false, false] #[true, false, true, true, false, false] rfl rfl rfl rfl (by kernel_rfl) (by decide) (by decide) (fun K hK => ?_) (fun K hK => ?_)
        · skip
          refine Kd.R_make_step (Kd.int .i64) _ 2 (by rfl) (N := 20) rfl 22 _ _ rfl t897 rfl rfl Tryd.underlying22 (.int .i64 0) 8 info2 rfl (by decide) (by omega) 0 (ok := fun _ => True) (okp := fun _ => True) rfl (fun _ hk => hk) trivial (of_decide_eq_true (by first | (with_reducible assumption) | assumption)) (Nat.le_trans (Nat.mul_le_mul_right _ (of_decide_eq_true (by first | (with_reducible assumption) | assumption) : t897.toNat ≤ 35184372088832)) (by omega)) (Below.refl _ _) (Nat.le_refl _) ?_
          intro v899 w12 ho13 hb hg_ hnew_
          clear hg_ hnew_
          (first | rw [← Ny898.out] at ho13 | (simp only [Int.reduceToNat] at ho13; rw [← Ny898.out] at ho13))
          have n0_ := Aside0.mk (Kd.R_elder' (by (with_reducible repeat (first | apply Kd.R_alloc | apply Kd.R_drewN | apply Kd.R_drew)); exact HO896.out) (Kd.R_base ho13) hb)
          have n1_ := Aside0.mk (Kd.R_lower (Kd.R_new' ho13 (Kd.R_lt (by (with_reducible repeat (first | apply Kd.R_alloc | apply Kd.R_drewN | apply Kd.R_drew)); exact HO896.out))) (below_size (by repeat (first | (with_reducible first | exact HB.out | apply below_alloc | apply pw_below_drewN | apply below_drew1 | refine below_set ?_ GE893.out) | exact HB.out))))
          have n2_ := Aside0.mk (blk_below (g := gb893) (o := .cells #[.int .i64 a0_0, .slice A0_1 l0_1.length c0_1] 26 (0, 0)) (by (with_reducible repeat (first | refine blk_drewN ?_ _ | refine blk_drew ?_ | refine blk_alloc ?_ _)); exact BK893.out) hb)
          have n3_ := Aside0.mk (below_step (by repeat (first | (with_reducible first | exact HB.out | apply below_alloc | apply pw_below_drewN | apply below_drew1 | refine below_set ?_ GE893.out) | exact HB.out)) hb)
          clear HO896
          clear BK893
          clear HB
          have HO896 := n0_
          have HO900 := n1_
          have BK893 := n2_
          have HB := n3_
          clear n0_ n1_ n2_ n3_
          clear hb ho13
          refine hK.out _ _ trivial (fun hHeld => ?_)
          clear hK K
          refine norm_ (a' := ?_) ?_ ?_
          rotate_left
          · show Act.put _ (some 20) _ = _
            simp only [Act.put, List.setIfInBounds_toArray, List.set_cons_zero, List.set_cons_succ, i64_w, i32_w]
            rfl
          refine pure_ (i := 4) (N := some 6) (v := ?_) (a' := ?_) #[true, true, true, false, true, false] rfl rfl (by kernel_rfl) (fun _ _ _ h => h) (Or.inl ⟨by rfl, ?_⟩) ?_ ?_
          rotate_left
          · intro w'
            go_simp
            with_reducible rfl
          rotate_left
          · simp only [Act.put, List.setIfInBounds_toArray, List.set_cons_zero, List.set_cons_succ, i64_w, i32_w]
            rfl
          refine one_ (i := 3) (N := some 22) #[true, true, true, true, true, false] rfl rfl (by kernel_rfl) (by decide) (fun K hK => ?_)
          refine Kd.R_make_step (Kd.int .i64) _ 2 (by rfl) (N := 22) rfl 22 _ _ rfl t897 rfl rfl Tryd.underlying22 (.int .i64 0) 8 info2 rfl (by decide) (by omega) 0 (ok := fun _ => True) (okp := fun _ => True) rfl (fun _ hk => hk) trivial (of_decide_eq_true (by first | (with_reducible assumption) | assumption)) (Nat.le_trans (Nat.mul_le_mul_right _ (of_decide_eq_true (by first | (with_reducible assumption) | assumption) : t897.toNat ≤ 35184372088832)) (by omega)) (Below.refl _ _) (Nat.le_refl _) ?_
          intro v902 w14 ho15 hb hg_ hnew_
          clear hg_ hnew_
          (first | rw [← Ny901.out] at ho15 | (simp only [Int.reduceToNat] at ho15; rw [← Ny901.out] at ho15))
          have n0_ := Aside0.mk (Kd.R_elder' (by (with_reducible repeat (first | apply Kd.R_alloc | apply Kd.R_drewN | apply Kd.R_drew)); exact HO896.out) (Kd.R_base ho15) hb)
          have n1_ := Aside0.mk (Kd.R_elder' (by (with_reducible repeat (first | apply Kd.R_alloc | apply Kd.R_drewN | apply Kd.R_drew)); exact HO900.out) (Kd.R_base ho15) hb)
          have n2_ := Aside0.mk (Kd.R_lower (Kd.R_new' (Kd.R_new' ho15 (Kd.R_lt (by (with_reducible repeat (first | apply Kd.R_alloc | apply Kd.R_drewN | apply Kd.R_drew)); exact HO896.out))) (Kd.R_lt (by (with_reducible repeat (first | apply Kd.R_alloc | apply Kd.R_drewN | apply Kd.R_drew)); exact HO900.out))) (below_size (by repeat (first | (with_reducible first | exact HB.out | apply below_alloc | apply pw_below_drewN | apply below_drew1 | refine below_set ?_ GE893.out) | exact HB.out))))
          have n3_ := Aside0.mk (blk_below (g := gb893) (o := .cells #[.int .i64 a0_0, .slice A0_1 l0_1.length c0_1] 26 (0, 0)) (by (with_reducible repeat (first | refine blk_drewN ?_ _ | refine blk_drew ?_ | refine blk_alloc ?_ _)); exact BK893.out) hb)
          have n4_ := Aside0.mk (below_step (by repeat (first | (with_reducible first | exact HB.out | apply below_alloc | apply pw_below_drewN | apply below_drew1 | refine below_set ?_ GE893.out) | exact HB.out)) hb)
          clear HO896
          clear HO900
          clear BK893
          clear HB
          have HO896 := n0_
          have HO900 := n1_
          have HO903 := n2_
          have BK893 := n3_
          have HB := n4_
          clear n0_ n1_ n2_ n3_ n4_
          clear hb ho15
          refine hK.out _ _ trivial (fun hHeld => ?_)
          clear hK K
          refine norm_ (a' := ?_) ?_ ?_
          rotate_left
          · show Act.put _ (some 22) _ = _
            simp only [Act.put, List.setIfInBounds_toArray, List.set_cons_zero, List.set_cons_succ, i64_w, i32_w]
            rfl
          exact norm_ (by simp only [putAll, Act.put, List.setIfInBounds_toArray, List.set_cons_zero, List.set_cons_succ]) (hCont (v899, v902) _ ⟨(by (with_reducible repeat (first | apply Kd.R_alloc | apply Kd.R_drewN | apply Kd.R_drew)); exact Kd.R_mono HO896.out (fun _ hk => ⟨hk.1.2, hk.2⟩)), (by (with_reducible repeat (first | apply Kd.R_alloc | apply Kd.R_drewN | apply Kd.R_drew)); exact Kd.R_mono HO900.out (fun _ hk => ⟨hk.1.2, hk.2⟩)), (by (with_reducible repeat (first | apply Kd.R_alloc | apply Kd.R_drewN | apply Kd.R_drew)); exact Kd.R_mono HO903.out (fun _ hk => ⟨hk.1.2, hk.2⟩)), (by (with_reducible repeat (first | refine blk_drewN ?_ _ | refine blk_drew ?_ | refine blk_alloc ?_ _)); exact BK893.out), (by repeat (first | (with_reducible first | exact HB.out | apply below_alloc | apply pw_below_drewN | apply below_drew1 | refine below_set ?_ GE893.out) | exact HB.out))⟩)
        · skip
          refine Kd.R_make_step (Kd.int .i64) _ 2 (by rfl) (N := 22) rfl 22 _ _ rfl t897 rfl rfl Tryd.underlying22 (.int .i64 0) 8 info2 rfl (by decide) (by omega) 0 (ok := fun _ => True) (okp := fun _ => True) rfl (fun _ hk => hk) trivial (of_decide_eq_true (by first | (with_reducible assumption) | assumption)) (Nat.le_trans (Nat.mul_le_mul_right _ (of_decide_eq_true (by first | (with_reducible assumption) | assumption) : t897.toNat ≤ 35184372088832)) (by omega)) (Below.refl _ _) (Nat.le_refl _) ?_
          intro v902 w12 ho13 hb hg_ hnew_
          clear hg_ hnew_
          (first | rw [← Ny901.out] at ho13 | (simp only [Int.reduceToNat] at ho13; rw [← Ny901.out] at ho13))
          have n0_ := Aside0.mk (Kd.R_elder' (by (with_reducible repeat (first | apply Kd.R_alloc | apply Kd.R_drewN | apply Kd.R_drew)); exact HO896.out) (Kd.R_base ho13) hb)
          have n1_ := Aside0.mk (Kd.R_lower (Kd.R_new' ho13 (Kd.R_lt (by (with_reducible repeat (first | apply Kd.R_alloc | apply Kd.R_drewN | apply Kd.R_drew)); exact HO896.out))) (below_size (by repeat (first | (with_reducible first | exact HB.out | apply below_alloc | apply pw_below_drewN | apply below_drew1 | refine below_set ?_ GE893.out) | exact HB.out))))
          have n2_ := Aside0.mk (blk_below (g := gb893) (o := .cells #[.int .i64 a0_0, .slice A0_1 l0_1.length c0_1] 26 (0, 0)) (by (with_reducible repeat (first | refine blk_drewN ?_ _ | refine blk_drew ?_ | refine blk_alloc ?_ _)); exact BK893.out) hb)
          have n3_ := Aside0.mk (below_step (by repeat (first | (with_reducible first | exact HB.out | apply below_alloc | apply pw_below_drewN | apply below_drew1 | refine below_set ?_ GE893.out) | exact HB.out)) hb)
          clear HO896
          clear BK893
          clear HB
          have HO896 := n0_
          have HO903 := n1_
          have BK893 := n2_
          have HB := n3_
          clear n0_ n1_ n2_ n3_
          clear hb ho13
          refine hK.out _ _ trivial (fun hHeld => ?_)
          clear hK K
          refine norm_ (a' := ?_) ?_ ?_
          rotate_left
          · show Act.put _ (some 22) _ = _
            simp only [Act.put, List.setIfInBounds_toArray, List.set_cons_zero, List.set_cons_succ, i64_w, i32_w]
            rfl
          refine one_ (i := 1) (N := some 20) #[true, true, true, true, false, false] rfl rfl (by kernel_rfl) (by decide) (fun K hK => ?_)
          refine Kd.R_make_step (Kd.int .i64) _ 2 (by rfl) (N := 20) rfl 22 _ _ rfl t897 rfl rfl Tryd.underlying22 (.int .i64 0) 8 info2 rfl (by decide) (by omega) 0 (ok := fun _ => True) (okp := fun _ => True) rfl (fun _ hk => hk) trivial (of_decide_eq_true (by first | (with_reducible assumption) | assumption)) (Nat.le_trans (Nat.mul_le_mul_right _ (of_decide_eq_true (by first | (with_reducible assumption) | assumption) : t897.toNat ≤ 35184372088832)) (by omega)) (Below.refl _ _) (Nat.le_refl _) ?_
          intro v899 w14 ho15 hb hg_ hnew_
          clear hg_ hnew_
          (first | rw [← Ny898.out] at ho15 | (simp only [Int.reduceToNat] at ho15; rw [← Ny898.out] at ho15))
          have n0_ := Aside0.mk (Kd.R_elder' (by (with_reducible repeat (first | apply Kd.R_alloc | apply Kd.R_drewN | apply Kd.R_drew)); exact HO896.out) (Kd.R_base ho15) hb)
          have n1_ := Aside0.mk (Kd.R_elder' (by (with_reducible repeat (first | apply Kd.R_alloc | apply Kd.R_drewN | apply Kd.R_drew)); exact HO903.out) (Kd.R_base ho15) hb)
          have n2_ := Aside0.mk (Kd.R_lower (Kd.R_new' (Kd.R_new' ho15 (Kd.R_lt (by (with_reducible repeat (first | apply Kd.R_alloc | apply Kd.R_drewN | apply Kd.R_drew)); exact HO896.out))) (Kd.R_lt (by (with_reducible repeat (first | apply Kd.R_alloc | apply Kd.R_drewN | apply Kd.R_drew)); exact HO903.out))) (below_size (by repeat (first | (with_reducible first | exact HB.out | apply below_alloc | apply pw_below_drewN | apply below_drew1 | refine below_set ?_ GE893.out) | exact HB.out))))
          have n3_ := Aside0.mk (blk_below (g := gb893) (o := .cells #[.int .i64 a0_0, .slice A0_1 l0_1.length c0_1] 26 (0, 0)) (by (with_reducible repeat (first | refine blk_drewN ?_ _ | refine blk_drew ?_ | refine blk_alloc ?_ _)); exact BK893.out) hb)
          have n4_ := Aside0.mk (below_step (by repeat (first | (with_reducible first | exact HB.out | apply below_alloc | apply pw_below_drewN | apply below_drew1 | refine below_set ?_ GE893.out) | exact HB.out)) hb)
          clear HO896
          clear HO903
          clear BK893
          clear HB
          have HO896 := n0_
          have HO903 := n1_
          have HO900 := n2_
          have BK893 := n3_
          have HB := n4_
          clear n0_ n1_ n2_ n3_ n4_
          clear hb ho15
          refine hK.out _ _ trivial (fun hHeld => ?_)
          clear hK K
          refine norm_ (a' := ?_) ?_ ?_
          rotate_left
          · show Act.put _ (some 20) _ = _
            simp only [Act.put, List.setIfInBounds_toArray, List.set_cons_zero, List.set_cons_succ, i64_w, i32_w]
            rfl
          refine pure_ (i := 4) (N := some 6) (v := ?_) (a' := ?_) #[true, true, true, true, true, false] rfl rfl (by kernel_rfl) (fun _ _ _ h => h) (Or.inl ⟨by rfl, ?_⟩) ?_ ?_
          rotate_left
          · intro w'
            go_simp
            with_reducible rfl
          rotate_left
          · simp only [Act.put, List.setIfInBounds_toArray, List.set_cons_zero, List.set_cons_succ, i64_w, i32_w]
            rfl
          exact norm_ (by simp only [putAll, Act.put, List.setIfInBounds_toArray, List.set_cons_zero, List.set_cons_succ]) (hCont (v899, v902) _ ⟨(by (with_reducible repeat (first | apply Kd.R_alloc | apply Kd.R_drewN | apply Kd.R_drew)); exact Kd.R_mono HO896.out (fun _ hk => ⟨hk.2, hk.1.2⟩)), (by (with_reducible repeat (first | apply Kd.R_alloc | apply Kd.R_drewN | apply Kd.R_drew)); exact Kd.R_mono HO900.out (fun _ hk => ⟨hk.1.2, hk.2⟩)), (by (with_reducible repeat (first | apply Kd.R_alloc | apply Kd.R_drewN | apply Kd.R_drew)); exact Kd.R_mono HO903.out (fun _ hk => ⟨hk.1.2, hk.2⟩)), (by (with_reducible repeat (first | refine blk_drewN ?_ _ | refine blk_drew ?_ | refine blk_alloc ?_ _)); exact BK893.out), (by repeat (first | (with_reducible first | exact HB.out | apply below_alloc | apply pw_below_drewN | apply below_drew1 | refine below_set ?_ GE893.out) | exact HB.out))⟩)
      rintro ⟨v899, v902⟩ w16 ⟨h0_, h1_, h2_, h3_, h4_⟩
      have n0_ : Aside0 (Kd.R (Kd.int .i64) 2 w16 w.heap.size (fun k_ => some k_ ≠ (v899 : Value).ownBlock ∧ some k_ ≠ (v902 : Value).ownBlock) (.slice Ao9 t894.length co9) t894) := ⟨h0_⟩
      have n1_ : Aside0 (Kd.R (Kd.int .i64) 2 w16 w.heap.size (fun k_ => some k_ ≠ (.slice Ao9 t894.length co9 : Value).ownBlock ∧ some k_ ≠ (v902 : Value).ownBlock) v899 y898) := ⟨h1_⟩
      have n2_ : Aside0 (Kd.R (Kd.int .i64) 2 w16 w.heap.size (fun k_ => some k_ ≠ (.slice Ao9 t894.length co9 : Value).ownBlock ∧ some k_ ≠ (v899 : Value).ownBlock) v902 y901) := ⟨h2_⟩
      have n3_ : Aside0 (w16.heap[gb893]? = some (.cells #[.int .i64 a0_0, .slice A0_1 l0_1.length c0_1] 26 (0, 0))) := ⟨h3_⟩
      have n4_ : Aside0 (Below w.heap.size w w16) := ⟨h4_⟩
      clear HO896
      clear BK893
      clear HB
      clear h0_ h1_ h2_ h3_ h4_
      have HO896 := n0_
      have HO900 := n1_
      have HO903 := n2_
      have BK893 := n3_
      have HB := n4_
      clear n0_ n1_ n2_ n3_ n4_
      have hHeld := trivial
      refine norm_ (a' := ?_) ?_ ?_
      rotate_left
      · simp only [putAll, Act.put, List.setIfInBounds_toArray, List.set_cons_zero, List.set_cons_succ]
        rfl
      refine pure_ (i := 5) (N := some 7) (v := ?_) (a' := ?_) #[true, true, true, true, true, true] rfl rfl (by kernel_rfl) (fun _ _ _ h => h) (Or.inl ⟨by rfl, ?_⟩) ?_ ?_
      rotate_left
      · intro w'
        go_simp
        with_reducible rfl
      rotate_left
      · simp only [Act.put, List.setIfInBounds_toArray, List.set_cons_zero, List.set_cons_succ, i64_w, i32_w]
        rfl
      refine done_ (by kernel_rfl) ?_
      have hcz17_0 : w16.cell? ⟨gb893, 0, none⟩ = some (.int .i64 a0_0) := (blk_cell BK893.out 0).trans rfl
      have hcz17_1 : w16.cell? ⟨gb893, 1, none⟩ = some (.slice A0_1 l0_1.length c0_1) := (blk_cell BK893.out 1).trans rfl
      have hfz17_0 := blk_frozen BK893.out 0
      have hfz17_1 := blk_frozen BK893.out 1
      try go_wp2
      go_loopg [25] k (fun kq v25 w' => ∃ (x6_1 : List Int) (x7_1 : List Int) (x25_1 : Int), v25 = .int .i64 x25_1 ∧ Aside0 (impl_Graph_arrays.l0 kq t897 x6_1 x7_1 a0_0 x25_1 a0_0 l0_1 = some (r1, r2, r3)) ∧ Aside0 (kq ≤ k) ∧ Aside0 (Kd.R (Kd.int .i64) 2 w' w.heap.size (fun k_ => some k_ ≠ (v902 : Value).ownBlock) v899 x6_1) ∧ Aside0 (Kd.R (Kd.int .i64) 2 w' w.heap.size (fun k_ => some k_ ≠ (v899 : Value).ownBlock) v902 x7_1) ∧ Aside0 (w'.heap[gb893]? = some (.cells #[.int .i64 a0_0, (.slice A0_1 l0_1.length c0_1)] 26 (0, 0))) ∧ Aside0 (Below w.heap.size w w'))
      case atStart => exact ⟨(y898), (y901), (0), (by first | rfl | (simp; done) | (simp [*]; done)), H', ⟨Nat.le_refl _⟩, ⟨by (with_reducible repeat (first | apply Kd.R_alloc | apply Kd.R_drewN | apply Kd.R_drew)); exact Kd.R_mono HO900.out (fun _ hk => hk.2)⟩, ⟨by (with_reducible repeat (first | apply Kd.R_alloc | apply Kd.R_drewN | apply Kd.R_drew)); exact Kd.R_mono HO903.out (fun _ hk => hk.2)⟩, ⟨by (with_reducible repeat (first | refine blk_drewN ?_ _ | refine blk_drew ?_ | refine blk_alloc ?_ _)); exact BK893.out⟩, ⟨by repeat (first | (with_reducible first | exact HB.out | apply below_alloc | apply pw_below_drewN | apply below_drew1 | refine below_set ?_ GE893.out) | exact HB.out)⟩⟩
      case round =>
        clear H'
        try clear p2
        try clear c4
        try clear c4b0
        try clear c4b1
        try clear c5
        try clear c5b0
        try clear c5b1
        try clear c7
        try clear c8
        try clear hcz17_0
        try clear hcz17_1
        try clear hcz7_0
        try clear hcz7_1
        try clear hfz17_0
        try clear hfz17_1
        try clear hfz7_0
        try clear hfz7_1
        obtain ⟨x6_1, x7_1, x25_1, rfl, HA, HK1, HO_6, HO_7, BK893, HB⟩ := hrel
        cases gk with
        | zero => exact absurd HA.out (by simp [impl_Graph_arrays.l0])
        | succ k1 =>
          have H := HA.out
          clear HA
          simp only [impl_Graph_arrays.l0] at H
          by_cases c18 : x25_1 < a0_0
          · rw [if_pos c18] at H
            have c18b0 : decide (x25_1 < a0_0) = true := decide_eq_true c18
            clear c18
            replace H := Option.bind_eq_some_iff.mp H
            obtain ⟨t904, A190, H⟩ := H
            replace H : (impl_Graph_arrays.l1 k1 t897 x6_1 x7_1 t904 a0_0 x25_1 t904 (t904.length : Int) 0 a0_0 l0_1) = some (r1, r2, r3) := H
            have A19 := Aside0.mk A190
            clear A190
            have H' := Aside0.mk H
            clear H
            have hcz20_0 : wr.cell? ⟨gb893, 0, none⟩ = some (.int .i64 a0_0) := (blk_cell BK893.out 0).trans rfl
            have hcz20_1 : wr.cell? ⟨gb893, 1, none⟩ = some (.slice A0_1 l0_1.length c0_1) := (blk_cell BK893.out 1).trans rfl
            have hfz20_0 := blk_frozen BK893.out 0
            have hfz20_1 := blk_frozen BK893.out 1
            go_wp2_with (first | ((with_reducible refine gate_callee (f := 101) rfl ?_); refine goesL_ (some 30) rfl rfl Tryd.func101 (by kernel_rfl) rfl #[.agg #[.int .i64 a0_0, .slice A0_1 l0_1.length c0_1], .int .i64 x25_1] rfl (by (try simp only [List.map_toArray, List.map_cons, List.map_nil]); first | done | rfl | (simp only [List.length_drop, List.length_take]; rfl)) ?_; (with_reducible refine (impl_Graph_distances.calls k1 a0_0 _ _ l0_1 x25_1 t904 _ ?side1 ?side2 ?side3 A19.out).mono ?_); (case side1 => repeat (first | exact (Kd.C_below HR0_1.out HB.out) | (with_reducible refine Kd.C_alloc ?_ _) | (with_reducible refine Kd.C_drewN ?_ _) | (with_reducible refine Kd.C_drew ?_))); (case side2 => exact HC0_1.out); (case side3 => exact TabW.below HT.out (by repeat (first | (with_reducible first | exact HB.out | apply below_alloc | apply pw_below_drewN | apply below_drew1 | refine below_set ?_ GE893.out) | exact HB.out))); rintro e w21 ⟨v905, rfl, ho0, hb⟩; refine ⟨_, rfl, ?_⟩; have n0_ := Aside0.mk (Kd.R_elder' (by (with_reducible repeat (first | apply Kd.R_alloc | apply Kd.R_drewN | apply Kd.R_drew)); exact HO_6.out) (Kd.R_base ho0) hb); have n1_ := Aside0.mk (Kd.R_elder' (by (with_reducible repeat (first | apply Kd.R_alloc | apply Kd.R_drewN | apply Kd.R_drew)); exact HO_7.out) (Kd.R_base ho0) hb); have n2_ := Aside0.mk (Kd.R_lower (Kd.R_new' (Kd.R_new' ho0 (Kd.R_lt (by (with_reducible repeat (first | apply Kd.R_alloc | apply Kd.R_drewN | apply Kd.R_drew)); exact HO_6.out))) (Kd.R_lt (by (with_reducible repeat (first | apply Kd.R_alloc | apply Kd.R_drewN | apply Kd.R_drew)); exact HO_7.out))) (below_size (by repeat (first | (with_reducible first | exact HB.out | apply below_alloc | apply pw_below_drewN | apply below_drew1 | refine below_set ?_ GE893.out) | exact HB.out)))); have n3_ := Aside0.mk (blk_below (g := gb893) (o := .cells #[.int .i64 a0_0, .slice A0_1 l0_1.length c0_1] 26 (0, 0)) (by (with_reducible repeat (first | refine blk_drewN ?_ _ | refine blk_drew ?_ | refine blk_alloc ?_ _)); exact BK893.out) hb); have n4_ := Aside0.mk (below_step (by repeat (first | (with_reducible first | exact HB.out | apply below_alloc | apply pw_below_drewN | apply below_drew1 | refine below_set ?_ GE893.out) | exact HB.out)) hb); clear HO_6; clear HO_7; clear BK893; clear HB; have HO_6 := n0_; have HO_7 := n1_; have HO906 := n2_; have BK893 := n3_; have HB := n4_; clear n0_ n1_ n2_ n3_ n4_; (try clear hb); (try clear hb2); (try clear hk); (try clear hi); (try clear ho0); obtain ⟨Ao22, co22, eo22⟩ := Kd.R_slice HO906.out; subst eo22))
            go_loopg [33] k1 (fun kq v33 w' => ∃ (x6_2 : List Int) (x7_2 : List Int) (x33_2 : Int), v33 = .int .i64 x33_2 ∧ Aside0 (impl_Graph_arrays.l1 kq t897 x6_2 x7_2 t904 a0_0 x25_1 t904 (t904.length : Int) x33_2 a0_0 l0_1 = some (r1, r2, r3)) ∧ Aside0 (kq ≤ k1) ∧ Aside0 (Kd.R (Kd.int .i64) 2 w' w.heap.size (fun k_ => some k_ ≠ (v902 : Value).ownBlock ∧ some k_ ≠ ((.slice Ao22 t904.length co22) : Value).ownBlock ∧ some k_ ≠ ((.slice Ao22 t904.length co22) : Value).ownBlock) v899 x6_2) ∧ Aside0 (Kd.R (Kd.int .i64) 2 w' w.heap.size (fun k_ => some k_ ≠ (v899 : Value).ownBlock ∧ some k_ ≠ ((.slice Ao22 t904.length co22) : Value).ownBlock ∧ some k_ ≠ ((.slice Ao22 t904.length co22) : Value).ownBlock) v902 x7_2) ∧ Aside0 (Kd.R (Kd.int .i64) 2 w' w.heap.size (fun k_ => some k_ ≠ (v899 : Value).ownBlock ∧ some k_ ≠ (v902 : Value).ownBlock) (.slice Ao22 t904.length co22) t904) ∧ Aside0 (Kd.R (Kd.int .i64) 2 w' w.heap.size (fun k_ => some k_ ≠ (v899 : Value).ownBlock ∧ some k_ ≠ (v902 : Value).ownBlock) (.slice Ao22 t904.length co22) t904) ∧ Aside0 (w'.heap[gb893]? = some (.cells #[.int .i64 a0_0, (.slice A0_1 l0_1.length c0_1)] 26 (0, 0))) ∧ Aside0 (Below w.heap.size w w'))
            case atStart => exact ⟨(x6_1), (x7_1), (0), (by first | rfl | (simp; done) | (simp [*]; done)), H', ⟨Nat.le_refl _⟩, ⟨by (with_reducible repeat (first | apply Kd.R_alloc | apply Kd.R_drewN | apply Kd.R_drew)); exact Kd.R_mono HO_6.out (fun _ hk => ⟨hk.1, ⟨hk.2, hk.2⟩⟩)⟩, ⟨by (with_reducible repeat (first | apply Kd.R_alloc | apply Kd.R_drewN | apply Kd.R_drew)); exact Kd.R_mono HO_7.out (fun _ hk => ⟨hk.1, ⟨hk.2, hk.2⟩⟩)⟩, ⟨by (with_reducible repeat (first | apply Kd.R_alloc | apply Kd.R_drewN | apply Kd.R_drew)); exact Kd.R_mono HO906.out (fun _ hk => ⟨hk.1.2, hk.2⟩)⟩, ⟨by (with_reducible repeat (first | apply Kd.R_alloc | apply Kd.R_drewN | apply Kd.R_drew)); exact Kd.R_mono HO906.out (fun _ hk => ⟨hk.1.2, hk.2⟩)⟩, ⟨by (with_reducible repeat (first | refine blk_drewN ?_ _ | refine blk_drew ?_ | refine blk_alloc ?_ _)); exact BK893.out⟩, ⟨by repeat (first | (with_reducible first | exact HB.out | apply below_alloc | apply pw_below_drewN | apply below_drew1 | refine below_set ?_ GE893.out) | exact HB.out)⟩⟩
            case round =>
              clear H'
              try clear c1
              try clear p2
              try clear c4
              try clear c4b0
              try clear c4b1
              try clear c5
              try clear c5b0
              try clear c5b1
              try clear c7
              try clear c8
              try clear c10
              try clear c18
              try clear c18b0
              try clear hcz17_0
              try clear hcz17_1
              try clear hcz20_0
              try clear hcz20_1
              try clear hcz7_0
              try clear hcz7_1
              try clear hfz17_0
              try clear hfz17_1
              try clear hfz20_0
              try clear hfz20_1
              try clear hfz7_0
              try clear hfz7_1
              try clear p2
              obtain ⟨x6_2, x7_2, x33_2, rfl, HA, HK2, HO_6, HO_7, HO_9, HO_31, BK893, HB⟩ := hrel
              cases gk with
              | zero => exact absurd HA.out (by simp [impl_Graph_arrays.l1])
              | succ k2 =>
                have H := HA.out
                clear HA
                simp only [impl_Graph_arrays.l1] at H
                by_cases c23 : x33_2 < (t904.length : Int)
                · rw [if_pos c23] at H
                  have c23b0 : decide (x33_2 < (t904.length : Int)) = true := decide_eq_true c23
                  clear c23
                  by_cases c24 : 0 ≤ x33_2
                  · rw [if_pos c24] at H
                    have c24b0 : decide (0 ≤ x33_2) = true := decide_eq_true c24
                    clear c24
                    by_cases c25 : x33_2 < (t904.length : Int)
                    · rw [if_pos c25] at H
                      have c25b0 : decide (x33_2 < (t904.length : Int)) = true := decide_eq_true c25
                      clear c25
                      by_cases c26 : x33_2 < (l0_1.length : Int)
                      · rw [if_pos c26] at H
                        have c26b0 : decide (x33_2 < (l0_1.length : Int)) = true := decide_eq_true c26
                        clear c26
                        replace H := Option.bind_eq_some_iff.mp H
                        obtain ⟨t909, A270, H⟩ := H
                        replace H : (impl_Graph_arrays.l2 k2 t897 x6_2 x7_2 t904 (rd t904 x33_2) 0 0 a0_0 x25_1 t904 (t904.length : Int) x33_2 t909 (t909.length : Int) 0 a0_0 l0_1) = some (r1, r2, r3) := H
                        have A27 := Aside0.mk A270
                        clear A270
                        have H' := Aside0.mk H
                        clear H
                        have p907 : 0 ≤ (x33_2 : Int) := of_decide_eq_true (by first | (with_reducible assumption) | assumption)
                        have q907 : x33_2 < (t904.length : Int) := of_decide_eq_true (by first | (with_reducible assumption) | assumption)
                        obtain ⟨ad907, e907, hx907_0⟩ := Kd.at_int (Kd.R_reads' HO_31.out).2.2 x33_2 p907 q907
                        cases e907
                        replace p907 := eq_true p907
                        replace q907 := eq_true q907
                        have hcz28_0 : wr.cell? ⟨gb893, 0, none⟩ = some (.int .i64 a0_0) := (blk_cell BK893.out 0).trans rfl
                        have hcz28_1 : wr.cell? ⟨gb893, 1, none⟩ = some (.slice A0_1 l0_1.length c0_1) := (blk_cell BK893.out 1).trans rfl
                        have hfz28_0 := blk_frozen BK893.out 0
                        have hfz28_1 := blk_frozen BK893.out 1
                        have p908 : 0 ≤ (x33_2 : Int) := of_decide_eq_true (by first | (with_reducible assumption) | assumption)
                        have q908 : x33_2 < (l0_1.length : Int) := of_decide_eq_true (by first | (with_reducible assumption) | assumption)
                        obtain ⟨ad908, e908, hx908_0⟩ := Kd.at_int HR0_1.out x33_2 p908 q908
                        cases e908
                        (try replace hx908_0 := (HB.out.cell (World.block_lt_of_cell? w _ hx908_0)).trans hx908_0)
                        replace p908 := eq_true p908
                        replace q908 := eq_true q908
                        go_wp2_with (first | ((with_reducible refine gate_callee (f := 60) rfl ?_); refine goesL_ (some 43) rfl rfl Tryd.func60 (by kernel_rfl) rfl #[.int .i64 (rd l0_1 x33_2)] rfl (by (try simp only [List.map_toArray, List.map_cons, List.map_nil]); first | done | rfl | (simp only [List.length_drop, List.length_take]; rfl)) ?_; (with_reducible refine (impl_list.calls k2 (rd l0_1 x33_2) t909 _ ?side1 A27.out).mono ?_); (case side1 => exact TabW.below HT.out (by repeat (first | (with_reducible first | exact HB.out | apply below_alloc | apply pw_below_drewN | apply below_drew1 | refine below_set ?_ GE893.out) | exact HB.out))); rintro e w29 ⟨v910, rfl, ho0, hb⟩; refine ⟨_, rfl, ?_⟩; have n0_ := Aside0.mk (Kd.R_elder' (by (with_reducible repeat (first | apply Kd.R_alloc | apply Kd.R_drewN | apply Kd.R_drew)); exact HO_6.out) (Kd.R_base ho0) hb); have n1_ := Aside0.mk (Kd.R_elder' (by (with_reducible repeat (first | apply Kd.R_alloc | apply Kd.R_drewN | apply Kd.R_drew)); exact HO_7.out) (Kd.R_base ho0) hb); have n2_ := Aside0.mk (Kd.R_elder' (by (with_reducible repeat (first | apply Kd.R_alloc | apply Kd.R_drewN | apply Kd.R_drew)); exact HO_9.out) (Kd.R_base ho0) hb); have n3_ := Aside0.mk (Kd.R_elder' (by (with_reducible repeat (first | apply Kd.R_alloc | apply Kd.R_drewN | apply Kd.R_drew)); exact HO_31.out) (Kd.R_base ho0) hb); have n4_ := Aside0.mk (Kd.R_lower (Kd.R_new' (Kd.R_new' (Kd.R_new' (Kd.R_new' ho0 (Kd.R_lt (by (with_reducible repeat (first | apply Kd.R_alloc | apply Kd.R_drewN | apply Kd.R_drew)); exact HO_6.out))) (Kd.R_lt (by (with_reducible repeat (first | apply Kd.R_alloc | apply Kd.R_drewN | apply Kd.R_drew)); exact HO_7.out))) (Kd.R_lt (by (with_reducible repeat (first | apply Kd.R_alloc | apply Kd.R_drewN | apply Kd.R_drew)); exact HO_9.out))) (Kd.R_lt (by (with_reducible repeat (first | apply Kd.R_alloc | apply Kd.R_drewN | apply Kd.R_drew)); exact HO_31.out))) (below_size (by repeat (first | (with_reducible first | exact HB.out | apply below_alloc | apply pw_below_drewN | apply below_drew1 | refine below_set ?_ GE893.out) | exact HB.out)))); have n5_ := Aside0.mk (blk_below (g := gb893) (o := .cells #[.int .i64 a0_0, .slice (some ad908) l0_1.length c0_1] 26 (0, 0)) (by (with_reducible repeat (first | refine blk_drewN ?_ _ | refine blk_drew ?_ | refine blk_alloc ?_ _)); exact BK893.out) hb); have n6_ := Aside0.mk (below_step (by repeat (first | (with_reducible first | exact HB.out | apply below_alloc | apply pw_below_drewN | apply below_drew1 | refine below_set ?_ GE893.out) | exact HB.out)) hb); clear HO_6; clear HO_7; clear HO_9; clear HO_31; clear BK893; clear HB; have HO_6 := n0_; have HO_7 := n1_; have HO_9 := n2_; have HO_31 := n3_; have HO911 := n4_; have BK893 := n5_; have HB := n6_; clear n0_ n1_ n2_ n3_ n4_ n5_ n6_; (try clear hb); (try clear hb2); (try clear hk); (try clear hi); (try clear ho0); obtain ⟨Ao30, co30, eo30⟩ := Kd.R_slice HO911.out; subst eo30))
                        go_loopg [12, 13, 45] k2 (fun kq v12 v13 v45 w' => ∃ (x12_3 : Int) (x13_3 : Int) (x45_3 : Int), v12 = .int .i64 x12_3 ∧ v13 = .int .i64 x13_3 ∧ v45 = .int .i64 x45_3 ∧ Aside0 (impl_Graph_arrays.l2 kq t897 x6_2 x7_2 t904 (rd t904 x33_2) x12_3 x13_3 a0_0 x25_1 t904 (t904.length : Int) x33_2 t909 (t909.length : Int) x45_3 a0_0 l0_1 = some (r1, r2, r3)) ∧ Aside0 (kq ≤ k2) ∧ Aside0 (Kd.R (Kd.int .i64) 2 w' w.heap.size (fun k_ => some k_ ≠ (v902 : Value).ownBlock ∧ some k_ ≠ ((.slice (some ad907) t904.length co22) : Value).ownBlock ∧ some k_ ≠ ((.slice (some ad907) t904.length co22) : Value).ownBlock ∧ some k_ ≠ ((.slice Ao30 t909.length co30) : Value).ownBlock) v899 x6_2) ∧ Aside0 (Kd.R (Kd.int .i64) 2 w' w.heap.size (fun k_ => some k_ ≠ (v899 : Value).ownBlock ∧ some k_ ≠ ((.slice (some ad907) t904.length co22) : Value).ownBlock ∧ some k_ ≠ ((.slice (some ad907) t904.length co22) : Value).ownBlock ∧ some k_ ≠ ((.slice Ao30 t909.length co30) : Value).ownBlock) v902 x7_2) ∧ Aside0 (Kd.R (Kd.int .i64) 2 w' w.heap.size (fun k_ => some k_ ≠ (v899 : Value).ownBlock ∧ some k_ ≠ (v902 : Value).ownBlock ∧ some k_ ≠ ((.slice Ao30 t909.length co30) : Value).ownBlock) (.slice (some ad907) t904.length co22) t904) ∧ Aside0 (Kd.R (Kd.int .i64) 2 w' w.heap.size (fun k_ => some k_ ≠ (v899 : Value).ownBlock ∧ some k_ ≠ (v902 : Value).ownBlock ∧ some k_ ≠ ((.slice Ao30 t909.length co30) : Value).ownBlock) (.slice (some ad907) t904.length co22) t904) ∧ Aside0 (Kd.R (Kd.int .i64) 2 w' w.heap.size (fun k_ => some k_ ≠ (v899 : Value).ownBlock ∧ some k_ ≠ (v902 : Value).ownBlock ∧ some k_ ≠ ((.slice (some ad907) t904.length co22) : Value).ownBlock ∧ some k_ ≠ ((.slice (some ad907) t904.length co22) : Value).ownBlock) (.slice Ao30 t909.length co30) t909) ∧ Aside0 (w'.heap[gb893]? = some (.cells #[.int .i64 a0_0, (.slice (some ad908) l0_1.length c0_1)] 26 (0, 0))) ∧ Aside0 (Below w.heap.size w w'))
                        case atStart => exact ⟨(0), (0), (0), (by first | rfl | (simp; done) | (simp [*]; done)), (by first | rfl | (simp; done) | (simp [*]; done)), (by first | rfl | (simp; done) | (simp [*]; done)), H', ⟨Nat.le_refl _⟩, ⟨by (with_reducible repeat (first | apply Kd.R_alloc | apply Kd.R_drewN | apply Kd.R_drew)); exact Kd.R_mono HO_6.out (fun _ hk => ⟨hk.1.1, ⟨hk.1.2.1, ⟨hk.1.2.2, hk.2⟩⟩⟩)⟩, ⟨by (with_reducible repeat (first | apply Kd.R_alloc | apply Kd.R_drewN | apply Kd.R_drew)); exact Kd.R_mono HO_7.out (fun _ hk => ⟨hk.1.1, ⟨hk.1.2.1, ⟨hk.1.2.2, hk.2⟩⟩⟩)⟩, ⟨by (with_reducible repeat (first | apply Kd.R_alloc | apply Kd.R_drewN | apply Kd.R_drew)); exact Kd.R_mono HO_9.out (fun _ hk => ⟨hk.1.1, ⟨hk.1.2, hk.2⟩⟩)⟩, ⟨by (with_reducible repeat (first | apply Kd.R_alloc | apply Kd.R_drewN | apply Kd.R_drew)); exact Kd.R_mono HO_31.out (fun _ hk => ⟨hk.1.1, ⟨hk.1.2, hk.2⟩⟩)⟩, ⟨by (with_reducible repeat (first | apply Kd.R_alloc | apply Kd.R_drewN | apply Kd.R_drew)); exact Kd.R_mono HO911.out (fun _ hk => ⟨hk.1.1.1.2, ⟨hk.1.1.2, ⟨hk.1.2, hk.2⟩⟩⟩)⟩, ⟨by (with_reducible repeat (first | refine blk_drewN ?_ _ | refine blk_drew ?_ | refine blk_alloc ?_ _)); exact BK893.out⟩, ⟨by repeat (first | (with_reducible first | exact HB.out | apply below_alloc | apply pw_below_drewN | apply below_drew1 | refine below_set ?_ GE893.out) | exact HB.out)⟩⟩
                        case round =>
                          clear H'
                          try clear c1
                          try clear c2
                          try clear p2
                          try clear c4
                          try clear c4b0
                          try clear c4b1
                          try clear c5
                          try clear c5b0
                          try clear c5b1
                          try clear c6
                          try clear c7
                          try clear c8
                          try clear p9
                          try clear q9
                          try clear hx9
                          try clear c10
                          try clear c18
                          try clear c18b0
                          try clear c23
                          try clear c23b0
                          try clear c24
                          try clear c24b0
                          try clear c25
                          try clear c25b0
                          try clear c26
                          try clear c26b0
                          try clear hcz17_0
                          try clear hcz17_1
                          try clear hcz20_0
                          try clear hcz20_1
                          try clear hcz28_0
                          try clear hcz28_1
                          try clear hcz7_0
                          try clear hcz7_1
                          try clear hfz17_0
                          try clear hfz17_1
                          try clear hfz20_0
                          try clear hfz20_1
                          try clear hfz28_0
                          try clear hfz28_1
                          try clear hfz7_0
                          try clear hfz7_1
                          try clear hx907_0
                          try clear hx908_0
                          try clear p2
                          try clear p907
                          try clear p908
                          try clear q907
                          try clear q908
                          obtain ⟨x12_3, x13_3, x45_3, rfl, rfl, rfl, HA, HK3, HO_6, HO_7, HO_9, HO_31, HO_43, BK893, HB⟩ := hrel
                          cases gk with
                          | zero => exact absurd HA.out (by simp [impl_Graph_arrays.l2])
                          | succ k3 =>
                            have H := HA.out
                            clear HA
                            simp only [impl_Graph_arrays.l2] at H
                            by_cases c31 : x45_3 < (t909.length : Int)
                            · rw [if_pos c31] at H
                              have c31b0 : decide (x45_3 < (t909.length : Int)) = true := decide_eq_true c31
                              clear c31
                              by_cases c32 : 0 ≤ x45_3
                              · rw [if_pos c32] at H
                                have c32b0 : decide (0 ≤ x45_3) = true := decide_eq_true c32
                                clear c32
                                by_cases c33 : x45_3 < (t909.length : Int)
                                · rw [if_pos c33] at H
                                  have c33b0 : decide (x45_3 < (t909.length : Int)) = true := decide_eq_true c33
                                  clear c33
                                  by_cases c34 : 0 ≤ (rd t909 x45_3)
                                  · rw [if_pos c34] at H
                                    have c34b0 : decide (0 ≤ (rd t909 x45_3)) = true := decide_eq_true c34
                                    clear c34
                                    by_cases c35 : (rd t909 x45_3) < (t904.length : Int)
                                    · rw [if_pos c35] at H
                                      have c35b0 : decide ((rd t909 x45_3) < (t904.length : Int)) = true := decide_eq_true c35
                                      clear c35
                                      by_cases c36 : (rd t904 (rd t909 x45_3)) = (wrap64 ((rd t904 x33_2) + 1))
                                      · rw [if_pos c36] at H
                                        have c36b0 : ((rd t904 (rd t909 x45_3)) == (wrap64 ((rd t904 x33_2) + 1))) = true := beq_iff_eq.mpr c36
                                        have c36b1 : ((rd t904 (rd t909 x45_3)) != (wrap64 ((rd t904 x33_2) + 1))) = false := bne_eq_false_iff_eq.mpr c36
                                        clear c36
                                        have H' := Aside0.mk H
                                        clear H
                                        have p912 : 0 ≤ (x45_3 : Int) := of_decide_eq_true (by first | (with_reducible assumption) | assumption)
                                        have q912 : x45_3 < (t909.length : Int) := of_decide_eq_true (by first | (with_reducible assumption) | assumption)
                                        obtain ⟨ad912, e912, hx912_0⟩ := Kd.at_int (Kd.R_reads' HO_43.out).2.2 x45_3 p912 q912
                                        cases e912
                                        replace p912 := eq_true p912
                                        replace q912 := eq_true q912
                                        have p913 : 0 ≤ ((rd t909 x45_3) : Int) := of_decide_eq_true (by first | (with_reducible assumption) | assumption)
                                        have q913 : (rd t909 x45_3) < (t904.length : Int) := of_decide_eq_true (by first | (with_reducible assumption) | assumption)
                                        obtain ⟨ad913, e913, hx913_0⟩ := Kd.at_int (Kd.R_reads' HO_9.out).2.2 (rd t909 x45_3) p913 q913
                                        obtain rfl : ad907 = ad913 := (by injection e913)
                                        replace p913 := eq_true p913
                                        replace q913 := eq_true q913
                                        go_wp2
                                        go_roundg k3
                                        case measure => have := HK1.out; have := HK2.out; have := HK3.out; omega
                                        case rel => exact ⟨(wrap64 (x12_3 + 1)), (x13_3), (wrap64 (x45_3 + 1)), (by first | rfl | (simp; done) | (simp [*]; done)), (by first | rfl | (simp; done) | (simp [*]; done)), (by first | rfl | (simp; done) | (simp [*]; done)), H', ⟨by have := HK1.out; have := HK2.out; have := HK3.out; omega⟩, ⟨by (with_reducible repeat (first | apply Kd.R_alloc | apply Kd.R_drewN | apply Kd.R_drew)); exact HO_6.out⟩, ⟨by (with_reducible repeat (first | apply Kd.R_alloc | apply Kd.R_drewN | apply Kd.R_drew)); exact HO_7.out⟩, ⟨by (with_reducible repeat (first | apply Kd.R_alloc | apply Kd.R_drewN | apply Kd.R_drew)); exact HO_9.out⟩, ⟨by (with_reducible repeat (first | apply Kd.R_alloc | apply Kd.R_drewN | apply Kd.R_drew)); exact HO_31.out⟩, ⟨by (with_reducible repeat (first | apply Kd.R_alloc | apply Kd.R_drewN | apply Kd.R_drew)); exact HO_43.out⟩, ⟨by (with_reducible repeat (first | refine blk_drewN ?_ _ | refine blk_drew ?_ | refine blk_alloc ?_ _)); exact BK893.out⟩, ⟨by repeat (first | (with_reducible first | exact HB.out | apply below_alloc | apply pw_below_drewN | apply below_drew1 | refine below_set ?_ GE893.out) | exact HB.out)⟩⟩
                                      · rw [if_neg c36] at H
                                        have c36b0 : ((rd t904 (rd t909 x45_3)) == (wrap64 ((rd t904 x33_2) + 1))) = false := beq_eq_false_iff_ne.mpr c36
                                        have c36b1 : ((rd t904 (rd t909 x45_3)) != (wrap64 ((rd t904 x33_2) + 1))) = true := bne_iff_ne.mpr c36
                                        by_cases c37 : (rd t904 (rd t909 x45_3)) = (wrap64 ((rd t904 x33_2) - 1))
                                        · rw [if_pos c37] at H
                                          have c37b0 : ((rd t904 (rd t909 x45_3)) == (wrap64 ((rd t904 x33_2) - 1))) = true := beq_iff_eq.mpr c37
                                          have c37b1 : ((rd t904 (rd t909 x45_3)) != (wrap64 ((rd t904 x33_2) - 1))) = false := bne_eq_false_iff_eq.mpr c37
                                          clear c37
                                          have H' := Aside0.mk H
                                          clear H
                                          have p912 : 0 ≤ (x45_3 : Int) := of_decide_eq_true (by first | (with_reducible assumption) | assumption)
                                          have q912 : x45_3 < (t909.length : Int) := of_decide_eq_true (by first | (with_reducible assumption) | assumption)
                                          obtain ⟨ad912, e912, hx912_0⟩ := Kd.at_int (Kd.R_reads' HO_43.out).2.2 x45_3 p912 q912
                                          cases e912
                                          replace p912 := eq_true p912
                                          replace q912 := eq_true q912
                                          have p913 : 0 ≤ ((rd t909 x45_3) : Int) := of_decide_eq_true (by first | (with_reducible assumption) | assumption)
                                          have q913 : (rd t909 x45_3) < (t904.length : Int) := of_decide_eq_true (by first | (with_reducible assumption) | assumption)
                                          obtain ⟨ad913, e913, hx913_0⟩ := Kd.at_int (Kd.R_reads' HO_9.out).2.2 (rd t909 x45_3) p913 q913
                                          obtain rfl : ad907 = ad913 := (by injection e913)
                                          replace p913 := eq_true p913
                                          replace q913 := eq_true q913
                                          go_wp2
                                          go_roundg k3
                                          case measure => have := HK1.out; have := HK2.out; have := HK3.out; omega
                                          case rel => exact ⟨(x12_3), (wrap64 (x13_3 + 1)), (wrap64 (x45_3 + 1)), (by first | rfl | (simp; done) | (simp [*]; done)), (by first | rfl | (simp; done) | (simp [*]; done)), (by first | rfl | (simp; done) | (simp [*]; done)), H', ⟨by have := HK1.out; have := HK2.out; have := HK3.out; omega⟩, ⟨by (with_reducible repeat (first | apply Kd.R_alloc | apply Kd.R_drewN | apply Kd.R_drew)); exact HO_6.out⟩, ⟨by (with_reducible repeat (first | apply Kd.R_alloc | apply Kd.R_drewN | apply Kd.R_drew)); exact HO_7.out⟩, ⟨by (with_reducible repeat (first | apply Kd.R_alloc | apply Kd.R_drewN | apply Kd.R_drew)); exact HO_9.out⟩, ⟨by (with_reducible repeat (first | apply Kd.R_alloc | apply Kd.R_drewN | apply Kd.R_drew)); exact HO_31.out⟩, ⟨by (with_reducible repeat (first | apply Kd.R_alloc | apply Kd.R_drewN | apply Kd.R_drew)); exact HO_43.out⟩, ⟨by (with_reducible repeat (first | refine blk_drewN ?_ _ | refine blk_drew ?_ | refine blk_alloc ?_ _)); exact BK893.out⟩, ⟨by repeat (first | (with_reducible first | exact HB.out | apply below_alloc | apply pw_below_drewN | apply below_drew1 | refine below_set ?_ GE893.out) | exact HB.out)⟩⟩
                                        · rw [if_neg c37] at H
                                          have c37b0 : ((rd t904 (rd t909 x45_3)) == (wrap64 ((rd t904 x33_2) - 1))) = false := beq_eq_false_iff_ne.mpr c37
                                          have c37b1 : ((rd t904 (rd t909 x45_3)) != (wrap64 ((rd t904 x33_2) - 1))) = true := bne_iff_ne.mpr c37
                                          have H' := Aside0.mk H
                                          clear H
                                          have p912 : 0 ≤ (x45_3 : Int) := of_decide_eq_true (by first | (with_reducible assumption) | assumption)
                                          have q912 : x45_3 < (t909.length : Int) := of_decide_eq_true (by first | (with_reducible assumption) | assumption)
                                          obtain ⟨ad912, e912, hx912_0⟩ := Kd.at_int (Kd.R_reads' HO_43.out).2.2 x45_3 p912 q912
                                          cases e912
                                          replace p912 := eq_true p912
                                          replace q912 := eq_true q912
                                          have p913 : 0 ≤ ((rd t909 x45_3) : Int) := of_decide_eq_true (by first | (with_reducible assumption) | assumption)
                                          have q913 : (rd t909 x45_3) < (t904.length : Int) := of_decide_eq_true (by first | (with_reducible assumption) | assumption)
                                          obtain ⟨ad913, e913, hx913_0⟩ := Kd.at_int (Kd.R_reads' HO_9.out).2.2 (rd t909 x45_3) p913 q913
                                          obtain rfl : ad907 = ad913 := (by injection e913)
                                          replace p913 := eq_true p913
                                          replace q913 := eq_true q913
                                          go_wp2
                                          go_roundg k3
                                          case measure => have := HK1.out; have := HK2.out; have := HK3.out; omega
                                          case rel => exact ⟨(x12_3), (x13_3), (wrap64 (x45_3 + 1)), (by first | rfl | (simp; done) | (simp [*]; done)), (by first | rfl | (simp; done) | (simp [*]; done)), (by first | rfl | (simp; done) | (simp [*]; done)), H', ⟨by have := HK1.out; have := HK2.out; have := HK3.out; omega⟩, ⟨by (with_reducible repeat (first | apply Kd.R_alloc | apply Kd.R_drewN | apply Kd.R_drew)); exact HO_6.out⟩, ⟨by (with_reducible repeat (first | apply Kd.R_alloc | apply Kd.R_drewN | apply Kd.R_drew)); exact HO_7.out⟩, ⟨by (with_reducible repeat (first | apply Kd.R_alloc | apply Kd.R_drewN | apply Kd.R_drew)); exact HO_9.out⟩, ⟨by (with_reducible repeat (first | apply Kd.R_alloc | apply Kd.R_drewN | apply Kd.R_drew)); exact HO_31.out⟩, ⟨by (with_reducible repeat (first | apply Kd.R_alloc | apply Kd.R_drewN | apply Kd.R_drew)); exact HO_43.out⟩, ⟨by (with_reducible repeat (first | refine blk_drewN ?_ _ | refine blk_drew ?_ | refine blk_alloc ?_ _)); exact BK893.out⟩, ⟨by repeat (first | (with_reducible first | exact HB.out | apply below_alloc | apply pw_below_drewN | apply below_drew1 | refine below_set ?_ GE893.out) | exact HB.out)⟩⟩
                                    · rw [if_neg c35] at H
                                      exact absurd H (by simp)
                                  · rw [if_neg c34] at H
                                    exact absurd H (by simp)
                                · rw [if_neg c33] at H
                                  exact absurd H (by simp)
                              · rw [if_neg c32] at H
                                exact absurd H (by simp)
                            · rw [if_neg c31] at H
                              have c31b0 : decide (x45_3 < (t909.length : Int)) = false := decide_eq_false c31
                              clear c31
                              have HC38 := Aside0.mk H
                              clear H
                              go_upto_if 68 with (fail)
                              go_cut [] (fun wc => ∃ (kq : Nat) (x6_37 : List Int), Aside0 (impl_Graph_arrays.j3 kq t897 x6_37 x7_2 t904 (rd t904 x33_2) x13_3 a0_0 x25_1 t904 (t904.length : Int) x33_2 a0_0 l0_1 = some (r1, r2, r3)) ∧ Aside0 (kq ≤ k3) ∧ Aside0 (Kd.R (Kd.int .i64) 2 wc w.heap.size (fun k_ => some k_ ≠ (v902 : Value).ownBlock ∧ some k_ ≠ ((.slice (some ad907) t904.length co22) : Value).ownBlock ∧ some k_ ≠ ((.slice (some ad907) t904.length co22) : Value).ownBlock) v899 x6_37) ∧ Aside0 (Kd.R (Kd.int .i64) 2 wc w.heap.size (fun k_ => some k_ ≠ (v899 : Value).ownBlock ∧ some k_ ≠ ((.slice (some ad907) t904.length co22) : Value).ownBlock ∧ some k_ ≠ ((.slice (some ad907) t904.length co22) : Value).ownBlock) v902 x7_2) ∧ Aside0 (Kd.R (Kd.int .i64) 2 wc w.heap.size (fun k_ => some k_ ≠ (v899 : Value).ownBlock ∧ some k_ ≠ (v902 : Value).ownBlock) (.slice (some ad907) t904.length co22) t904) ∧ Aside0 (Kd.R (Kd.int .i64) 2 wc w.heap.size (fun k_ => some k_ ≠ (v899 : Value).ownBlock ∧ some k_ ≠ (v902 : Value).ownBlock) (.slice (some ad907) t904.length co22) t904) ∧ Aside0 (wc.heap[gb893]? = some (.cells #[.int .i64 a0_0, (.slice (some ad908) l0_1.length c0_1)] 26 (0, 0))) ∧ Aside0 (Below w.heap.size w wc))
                              case first =>
                                have H := HC38.out
                                clear HC38
                                by_cases c39 : (rd t904 x33_2) < t897
                                · rw [if_pos c39] at H
                                  have c39b0 : decide ((rd t904 x33_2) < t897) = true := decide_eq_true c39
                                  clear c39
                                  (first | rw [c39b0] | (simp only [i64_w, i32_w]; rw [c39b0]) | skip)
                                  by_cases c40 : 0 ≤ (rd t904 x33_2)
                                  · rw [if_pos c40] at H
                                    have c40b0 : decide (0 ≤ (rd t904 x33_2)) = true := decide_eq_true c40
                                    clear c40
                                    by_cases c41 : (rd t904 x33_2) < (x6_2.length : Int)
                                    · rw [if_pos c41] at H
                                      have c41b0 : decide ((rd t904 x33_2) < (x6_2.length : Int)) = true := decide_eq_true c41
                                      clear c41
                                      by_cases c42 : (rd x6_2 (rd t904 x33_2)) = 0
                                      · rw [if_pos c42] at H
                                        have c42b0 : ((rd x6_2 (rd t904 x33_2)) == 0) = true := beq_iff_eq.mpr c42
                                        have c42b1 : ((rd x6_2 (rd t904 x33_2)) != 0) = false := bne_eq_false_iff_eq.mpr c42
                                        clear c42
                                        obtain ⟨y915, hy915⟩ : ∃ y_ : List Int, y_ = (x6_2.set ((rd t904 x33_2) : Int).toNat x12_3) := ⟨_, rfl⟩
                                        replace H : (if x12_3 = (rd y915 (rd t904 x33_2)) then (if x12_3 = 0 then (some (([] : List Int), ([] : List Int), false)) else (impl_Graph_arrays.j3 k3 t897 y915 x7_2 t904 (rd t904 x33_2) x13_3 a0_0 x25_1 t904 (t904.length : Int) x33_2 a0_0 l0_1)) else (some (([] : List Int), ([] : List Int), false))) = some (r1, r2, r3) := by first | (rw [hy915]; with_reducible exact H) | (have H2_ := (Option.bind_some _ _).symm.trans H; rw [hy915]; with_reducible exact H2_) | (have H2_ := (Option.bind_some _ _).symm.trans H; with_reducible exact H2_) | with_reducible exact H | (rw [hy915]; exact H) | exact H
                                        have Ny915 := Aside0.mk hy915
                                        clear hy915
                                        by_cases c44 : x12_3 = (rd y915 (rd t904 x33_2))
                                        · rw [if_pos c44] at H
                                          have c44b0 : (x12_3 == (rd y915 (rd t904 x33_2))) = true := beq_iff_eq.mpr c44
                                          have c44b1 : (x12_3 != (rd y915 (rd t904 x33_2))) = false := bne_eq_false_iff_eq.mpr c44
                                          clear c44
                                          by_cases c45 : x12_3 = 0
                                          · rw [if_pos c45] at H
                                            have c45b0 : (x12_3 == 0) = true := beq_iff_eq.mpr c45
                                            have c45b1 : (x12_3 != 0) = false := bne_eq_false_iff_eq.mpr c45
                                            clear c45
                                            simp only [Option.some.injEq, Prod.mk.injEq] at H
                                            obtain ⟨rfl, rfl, rfl⟩ := H
                                            obtain ⟨Ao46, co46, eo46⟩ := Kd.R_slice HO_6.out
                                            subst eo46
                                            have p914 : 0 ≤ ((rd t904 x33_2) : Int) := of_decide_eq_true (by first | (with_reducible assumption) | assumption)
                                            have q914 : (rd t904 x33_2) < (x6_2.length : Int) := of_decide_eq_true (by first | (with_reducible assumption) | assumption)
                                            obtain ⟨ad914, e914, hx914_0⟩ := Kd.at_int (Kd.R_reads' HO_6.out).2.2 (rd t904 x33_2) p914 q914
                                            cases e914
                                            replace p914 := eq_true p914
                                            replace q914 := eq_true q914
                                            have p43 : 0 ≤ ((rd t904 x33_2) : Int) := of_decide_eq_true (by first | (with_reducible assumption) | assumption)
                                            have q43 : ((rd t904 x33_2) : Int) < ((x6_2.length : Int) : Int) := of_decide_eq_true (by first | (with_reducible assumption) | assumption)
                                            obtain ⟨go43, co43, eo43, gb43, gl43, cl43, HG43⟩ := Kd.R_form HO_6.out (by omega)
                                            (first | cases eo43 | (injection eo43 with ea_ en_ ec_; (first | subst ea_ | (injection ea_ with ea_; subst ea_)); subst ec_; clear en_))
                                            have GB43 := Aside0.mk gb43
                                            have GG43 := Aside0.mk HG43
                                            clear gb43 gl43 HG43
                                            (first | simp only [add_plain] at hx914_0 | skip)
                                            obtain ⟨hx43_0, hf43_0⟩ := Kd.R_celln 0 HO_6.out ((rd t904 x33_2) : Int) p43 q43
                                            replace p43 := eq_true p43
                                            replace q43 := eq_true q43
                                            have HP47 := Kd.R_putg HO_6.out ((rd t904 x33_2) : Int) x12_3
                                            go_wp2_with (first | ((with_reducible refine gate_store (t := 2) (p := 77) rfl ?_); refine store_event (t := 2) (p := 77) (v := ?vo_w48) (w1 := (wr.setCell ⟨go43, ((rd t904 x33_2) : Int).toNat, none⟩ (.int .i64 x12_3))) ?hg ?ho ?hn ?hr ?_; (case ho => rfl); (case hg => rfl); (case hn => rfl); (case hr => first | (go_simp; done) | (go_simp; rfl)); intro w48 hw; have hg : wr.grownBy w48 (some go43) := (by rw [hw]; exact HP47.2); have hp_ : Kd.R (Kd.int .i64) 2 w48 w.heap.size (fun k_ => some k_ ≠ (v902 : Value).ownBlock ∧ some k_ ≠ (.slice (some ad907) t904.length co22 : Value).ownBlock ∧ some k_ ≠ (.slice (some ad907) t904.length co22 : Value).ownBlock ∧ some k_ ≠ (.slice Ao30 t909.length co30 : Value).ownBlock) (.slice (some ⟨go43, 0, none⟩) x6_2.length co46) y915 := (by rw [hw, Ny915.out]; exact HP47.1); clear HP47; have n0_ := Aside0.mk (hp_); have n1_ := Aside0.mk (Kd.R_after (v := (.slice (some ⟨go43, 0, none⟩) x6_2.length co46)) (v1 := (.slice (some ⟨go43, 0, none⟩) x6_2.length co46)) (ok := (fun k_ => some k_ ≠ (.slice (some ad907) t904.length co22 : Value).ownBlock ∧ some k_ ≠ (.slice (some ad907) t904.length co22 : Value).ownBlock ∧ some k_ ≠ (.slice Ao30 t909.length co30 : Value).ownBlock)) (by (with_reducible repeat (first | apply Kd.R_alloc | apply Kd.R_drewN | apply Kd.R_drew)); exact Kd.R_mono HO_7.out (fun _ hk => ⟨⟨hk.2.1, ⟨hk.2.2.1, hk.2.2.2⟩⟩, hk.1⟩)) hg (.inl rfl)); have n2_ := Aside0.mk (Kd.R_after (v := (.slice (some ⟨go43, 0, none⟩) x6_2.length co46)) (v1 := (.slice (some ⟨go43, 0, none⟩) x6_2.length co46)) (ok := (fun k_ => some k_ ≠ (v902 : Value).ownBlock ∧ some k_ ≠ (.slice Ao30 t909.length co30 : Value).ownBlock)) (by (with_reducible repeat (first | apply Kd.R_alloc | apply Kd.R_drewN | apply Kd.R_drew)); exact Kd.R_mono HO_9.out (fun _ hk => ⟨⟨hk.2.1, hk.2.2⟩, hk.1⟩)) hg (.inl rfl)); have n3_ := Aside0.mk (Kd.R_after (v := (.slice (some ⟨go43, 0, none⟩) x6_2.length co46)) (v1 := (.slice (some ⟨go43, 0, none⟩) x6_2.length co46)) (ok := (fun k_ => some k_ ≠ (v902 : Value).ownBlock ∧ some k_ ≠ (.slice Ao30 t909.length co30 : Value).ownBlock)) (by (with_reducible repeat (first | apply Kd.R_alloc | apply Kd.R_drewN | apply Kd.R_drew)); exact Kd.R_mono HO_31.out (fun _ hk => ⟨⟨hk.2.1, hk.2.2⟩, hk.1⟩)) hg (.inl rfl)); have n4_ := Aside0.mk (Kd.R_after (v := (.slice (some ⟨go43, 0, none⟩) x6_2.length co46)) (v1 := (.slice (some ⟨go43, 0, none⟩) x6_2.length co46)) (ok := (fun k_ => some k_ ≠ (v902 : Value).ownBlock ∧ some k_ ≠ (.slice (some ad907) t904.length co22 : Value).ownBlock ∧ some k_ ≠ (.slice (some ad907) t904.length co22 : Value).ownBlock)) (by (with_reducible repeat (first | apply Kd.R_alloc | apply Kd.R_drewN | apply Kd.R_drew)); exact Kd.R_mono HO_43.out (fun _ hk => ⟨⟨hk.2.1, ⟨hk.2.2.1, hk.2.2.2⟩⟩, hk.1⟩)) hg (.inl rfl)); have n5_ := Aside0.mk (blk_grown (g := gb893) (o := .cells #[.int .i64 a0_0, .slice (some ad908) l0_1.length c0_1] 26 (0, 0)) (by (with_reducible repeat (first | refine blk_drewN ?_ _ | refine blk_drew ?_ | refine blk_alloc ?_ _)); exact BK893.out) hg (Kd.R_ne HO_6.out BK893.out (by decide))); have n6_ := Aside0.mk ((by rw [hw]; exact below_set (HB.out) GB43.out : Below w.heap.size w w48)); clear HO_6; clear HO_7; clear HO_9; clear HO_31; clear HO_43; clear BK893; clear HB; have HO_6 := n0_; have HO_7 := n1_; have HO_9 := n2_; have HO_31 := n3_; have HO_43 := n4_; have BK893 := n5_; have HB := n6_; clear n0_ n1_ n2_ n3_ n4_ n5_ n6_; clear hg hw hp_; have p916 : 0 ≤ ((rd t904 x33_2) : Int) := of_decide_eq_true (by first | (with_reducible assumption) | assumption); have q916 : (rd t904 x33_2) < (y915.length : Int) := (by have h_ : ((rd t904 x33_2) : Int) < ((x6_2.length : Int) : Int) := of_decide_eq_true (by first | (with_reducible assumption) | assumption); first | (have e_ := (Kd.R_reads' HO_6.out).1; omega) | simpa only [Ny915.out, List.length_set] using h_); have ql916 : (((rd t904 x33_2) : Int) < ((x6_2.length : Int) : Int)) = True := eq_true (of_decide_eq_true (by first | (with_reducible assumption) | assumption)); obtain ⟨ad916, e916, hx916_0⟩ := Kd.at_int (Kd.R_reads' HO_6.out).2.2 (rd t904 x33_2) p916 q916; obtain rfl : (⟨go43, 0, none⟩ : Addr) = ad916 := (by injection e916); (first | simp only [add_plain] at hx916_0 | simp only [add_at] at hx916_0 | simp only [Addr.add, Nat.zero_add] at hx916_0 | skip); replace p916 := eq_true p916; replace q916 := eq_true q916))
                                            go_ret3
                                            exact ⟨_, _, by first | rfl | (simp [errW_none, errW_some] <;> rfl) | (simp [*, errW_none, errW_some] <;> rfl), by first | exact Kd.R_nil _ _ _ _ _ | exact Kd.N_nil _ _ _ _ _ | exact Kd.V_nil _ _ _ _ _ | exact Kd.Q_nil _ _ _ _ _ | exact Kd.S_nil _ _ _ _ _, by first | exact Kd.R_nil _ _ _ _ _ | exact Kd.N_nil _ _ _ _ _ | exact Kd.V_nil _ _ _ _ _ | exact Kd.Q_nil _ _ _ _ _ | exact Kd.S_nil _ _ _ _ _, by repeat (first | (with_reducible first | exact HB.out | apply below_alloc | apply pw_below_drewN | apply below_drew1 | refine below_set ?_ GE893.out) | exact HB.out)⟩
                                          · rw [if_neg c45] at H
                                            have c45b0 : (x12_3 == 0) = false := beq_eq_false_iff_ne.mpr c45
                                            have c45b1 : (x12_3 != 0) = true := bne_iff_ne.mpr c45
                                            have H' := Aside0.mk H
                                            clear H
                                            obtain ⟨Ao49, co49, eo49⟩ := Kd.R_slice HO_6.out
                                            subst eo49
                                            have p914 : 0 ≤ ((rd t904 x33_2) : Int) := of_decide_eq_true (by first | (with_reducible assumption) | assumption)
                                            have q914 : (rd t904 x33_2) < (x6_2.length : Int) := of_decide_eq_true (by first | (with_reducible assumption) | assumption)
                                            obtain ⟨ad914, e914, hx914_0⟩ := Kd.at_int (Kd.R_reads' HO_6.out).2.2 (rd t904 x33_2) p914 q914
                                            cases e914
                                            replace p914 := eq_true p914
                                            replace q914 := eq_true q914
                                            have p43 : 0 ≤ ((rd t904 x33_2) : Int) := of_decide_eq_true (by first | (with_reducible assumption) | assumption)
                                            have q43 : ((rd t904 x33_2) : Int) < ((x6_2.length : Int) : Int) := of_decide_eq_true (by first | (with_reducible assumption) | assumption)
                                            obtain ⟨go43, co43, eo43, gb43, gl43, cl43, HG43⟩ := Kd.R_form HO_6.out (by omega)
                                            (first | cases eo43 | (injection eo43 with ea_ en_ ec_; (first | subst ea_ | (injection ea_ with ea_; subst ea_)); subst ec_; clear en_))
                                            have GB43 := Aside0.mk gb43
                                            have GG43 := Aside0.mk HG43
                                            clear gb43 gl43 HG43
                                            (first | simp only [add_plain] at hx914_0 | skip)
                                            obtain ⟨hx43_0, hf43_0⟩ := Kd.R_celln 0 HO_6.out ((rd t904 x33_2) : Int) p43 q43
                                            replace p43 := eq_true p43
                                            replace q43 := eq_true q43
                                            have HP50 := Kd.R_putg HO_6.out ((rd t904 x33_2) : Int) x12_3
                                            go_wp2_with (first | ((with_reducible refine gate_store (t := 2) (p := 77) rfl ?_); refine store_event (t := 2) (p := 77) (v := ?vo_w51) (w1 := (wr.setCell ⟨go43, ((rd t904 x33_2) : Int).toNat, none⟩ (.int .i64 x12_3))) ?hg ?ho ?hn ?hr ?_; (case ho => rfl); (case hg => rfl); (case hn => rfl); (case hr => first | (go_simp; done) | (go_simp; rfl)); intro w51 hw; have hg : wr.grownBy w51 (some go43) := (by rw [hw]; exact HP50.2); have hp_ : Kd.R (Kd.int .i64) 2 w51 w.heap.size (fun k_ => some k_ ≠ (v902 : Value).ownBlock ∧ some k_ ≠ (.slice (some ad907) t904.length co22 : Value).ownBlock ∧ some k_ ≠ (.slice (some ad907) t904.length co22 : Value).ownBlock ∧ some k_ ≠ (.slice Ao30 t909.length co30 : Value).ownBlock) (.slice (some ⟨go43, 0, none⟩) x6_2.length co49) y915 := (by rw [hw, Ny915.out]; exact HP50.1); clear HP50; have n0_ := Aside0.mk (hp_); have n1_ := Aside0.mk (Kd.R_after (v := (.slice (some ⟨go43, 0, none⟩) x6_2.length co49)) (v1 := (.slice (some ⟨go43, 0, none⟩) x6_2.length co49)) (ok := (fun k_ => some k_ ≠ (.slice (some ad907) t904.length co22 : Value).ownBlock ∧ some k_ ≠ (.slice (some ad907) t904.length co22 : Value).ownBlock ∧ some k_ ≠ (.slice Ao30 t909.length co30 : Value).ownBlock)) (by (with_reducible repeat (first | apply Kd.R_alloc | apply Kd.R_drewN | apply Kd.R_drew)); exact Kd.R_mono HO_7.out (fun _ hk => ⟨⟨hk.2.1, ⟨hk.2.2.1, hk.2.2.2⟩⟩, hk.1⟩)) hg (.inl rfl)); have n2_ := Aside0.mk (Kd.R_after (v := (.slice (some ⟨go43, 0, none⟩) x6_2.length co49)) (v1 := (.slice (some ⟨go43, 0, none⟩) x6_2.length co49)) (ok := (fun k_ => some k_ ≠ (v902 : Value).ownBlock ∧ some k_ ≠ (.slice Ao30 t909.length co30 : Value).ownBlock)) (by (with_reducible repeat (first | apply Kd.R_alloc | apply Kd.R_drewN | apply Kd.R_drew)); exact Kd.R_mono HO_9.out (fun _ hk => ⟨⟨hk.2.1, hk.2.2⟩, hk.1⟩)) hg (.inl rfl)); have n3_ := Aside0.mk (Kd.R_after (v := (.slice (some ⟨go43, 0, none⟩) x6_2.length co49)) (v1 := (.slice (some ⟨go43, 0, none⟩) x6_2.length co49)) (ok := (fun k_ => some k_ ≠ (v902 : Value).ownBlock ∧ some k_ ≠ (.slice Ao30 t909.length co30 : Value).ownBlock)) (by (with_reducible repeat (first | apply Kd.R_alloc | apply Kd.R_drewN | apply Kd.R_drew)); exact Kd.R_mono HO_31.out (fun _ hk => ⟨⟨hk.2.1, hk.2.2⟩, hk.1⟩)) hg (.inl rfl)); have n4_ := Aside0.mk (Kd.R_after (v := (.slice (some ⟨go43, 0, none⟩) x6_2.length co49)) (v1 := (.slice (some ⟨go43, 0, none⟩) x6_2.length co49)) (ok := (fun k_ => some k_ ≠ (v902 : Value).ownBlock ∧ some k_ ≠ (.slice (some ad907) t904.length co22 : Value).ownBlock ∧ some k_ ≠ (.slice (some ad907) t904.length co22 : Value).ownBlock)) (by (with_reducible repeat (first | apply Kd.R_alloc | apply Kd.R_drewN | apply Kd.R_drew)); exact Kd.R_mono HO_43.out (fun _ hk => ⟨⟨hk.2.1, ⟨hk.2.2.1, hk.2.2.2⟩⟩, hk.1⟩)) hg (.inl rfl)); have n5_ := Aside0.mk (blk_grown (g := gb893) (o := .cells #[.int .i64 a0_0, .slice (some ad908) l0_1.length c0_1] 26 (0, 0)) (by (with_reducible repeat (first | refine blk_drewN ?_ _ | refine blk_drew ?_ | refine blk_alloc ?_ _)); exact BK893.out) hg (Kd.R_ne HO_6.out BK893.out (by decide))); have n6_ := Aside0.mk ((by rw [hw]; exact below_set (HB.out) GB43.out : Below w.heap.size w w51)); clear HO_6; clear HO_7; clear HO_9; clear HO_31; clear HO_43; clear BK893; clear HB; have HO_6 := n0_; have HO_7 := n1_; have HO_9 := n2_; have HO_31 := n3_; have HO_43 := n4_; have BK893 := n5_; have HB := n6_; clear n0_ n1_ n2_ n3_ n4_ n5_ n6_; clear hg hw hp_; have p916 : 0 ≤ ((rd t904 x33_2) : Int) := of_decide_eq_true (by first | (with_reducible assumption) | assumption); have q916 : (rd t904 x33_2) < (y915.length : Int) := (by have h_ : ((rd t904 x33_2) : Int) < ((x6_2.length : Int) : Int) := of_decide_eq_true (by first | (with_reducible assumption) | assumption); first | (have e_ := (Kd.R_reads' HO_6.out).1; omega) | simpa only [Ny915.out, List.length_set] using h_); have ql916 : (((rd t904 x33_2) : Int) < ((x6_2.length : Int) : Int)) = True := eq_true (of_decide_eq_true (by first | (with_reducible assumption) | assumption)); obtain ⟨ad916, e916, hx916_0⟩ := Kd.at_int (Kd.R_reads' HO_6.out).2.2 (rd t904 x33_2) p916 q916; obtain rfl : (⟨go43, 0, none⟩ : Addr) = ad916 := (by injection e916); (first | simp only [add_plain] at hx916_0 | simp only [add_at] at hx916_0 | simp only [Addr.add, Nat.zero_add] at hx916_0 | skip); replace p916 := eq_true p916; replace q916 := eq_true q916))
                                            go_meet
                                            case rel => exact ⟨_, (y915), H', ⟨by have := HK1.out; have := HK2.out; have := HK3.out; first | omega | exact Nat.le_refl _⟩, ⟨by (with_reducible repeat (first | apply Kd.R_alloc | apply Kd.R_drewN | apply Kd.R_drew)); exact Kd.R_mono HO_6.out (fun _ hk => ⟨hk.1, ⟨hk.2.1, hk.2.2.1⟩⟩)⟩, ⟨by (with_reducible repeat (first | apply Kd.R_alloc | apply Kd.R_drewN | apply Kd.R_drew)); exact Kd.R_mono HO_7.out (fun _ hk => ⟨hk.2, ⟨hk.1.1, hk.1.2.1⟩⟩)⟩, ⟨by (with_reducible repeat (first | apply Kd.R_alloc | apply Kd.R_drewN | apply Kd.R_drew)); exact Kd.R_mono HO_9.out (fun _ hk => ⟨hk.2, hk.1.1⟩)⟩, ⟨by (with_reducible repeat (first | apply Kd.R_alloc | apply Kd.R_drewN | apply Kd.R_drew)); exact Kd.R_mono HO_31.out (fun _ hk => ⟨hk.2, hk.1.1⟩)⟩, ⟨by (with_reducible repeat (first | refine blk_drewN ?_ _ | refine blk_drew ?_ | refine blk_alloc ?_ _)); exact BK893.out⟩, ⟨by repeat (first | (with_reducible first | exact HB.out | apply below_alloc | apply pw_below_drewN | apply below_drew1 | refine below_set ?_ GE893.out) | exact HB.out)⟩⟩
                                        · rw [if_neg c44] at H
                                          have c44b0 : (x12_3 == (rd y915 (rd t904 x33_2))) = false := beq_eq_false_iff_ne.mpr c44
                                          have c44b1 : (x12_3 != (rd y915 (rd t904 x33_2))) = true := bne_iff_ne.mpr c44
                                          simp only [Option.some.injEq, Prod.mk.injEq] at H
                                          obtain ⟨rfl, rfl, rfl⟩ := H
                                          obtain ⟨Ao52, co52, eo52⟩ := Kd.R_slice HO_6.out
                                          subst eo52
                                          have p914 : 0 ≤ ((rd t904 x33_2) : Int) := of_decide_eq_true (by first | (with_reducible assumption) | assumption)
                                          have q914 : (rd t904 x33_2) < (x6_2.length : Int) := of_decide_eq_true (by first | (with_reducible assumption) | assumption)
                                          obtain ⟨ad914, e914, hx914_0⟩ := Kd.at_int (Kd.R_reads' HO_6.out).2.2 (rd t904 x33_2) p914 q914
                                          cases e914
                                          replace p914 := eq_true p914
                                          replace q914 := eq_true q914
                                          have p43 : 0 ≤ ((rd t904 x33_2) : Int) := of_decide_eq_true (by first | (with_reducible assumption) | assumption)
                                          have q43 : ((rd t904 x33_2) : Int) < ((x6_2.length : Int) : Int) := of_decide_eq_true (by first | (with_reducible assumption) | assumption)
                                          obtain ⟨go43, co43, eo43, gb43, gl43, cl43, HG43⟩ := Kd.R_form HO_6.out (by omega)
                                          (first | cases eo43 | (injection eo43 with ea_ en_ ec_; (first | subst ea_ | (injection ea_ with ea_; subst ea_)); subst ec_; clear en_))
                                          have GB43 := Aside0.mk gb43
                                          have GG43 := Aside0.mk HG43
                                          clear gb43 gl43 HG43
                                          (first | simp only [add_plain] at hx914_0 | skip)
                                          obtain ⟨hx43_0, hf43_0⟩ := Kd.R_celln 0 HO_6.out ((rd t904 x33_2) : Int) p43 q43
                                          replace p43 := eq_true p43
                                          replace q43 := eq_true q43
                                          have HP53 := Kd.R_putg HO_6.out ((rd t904 x33_2) : Int) x12_3
                                          go_wp2_with (first | ((with_reducible refine gate_store (t := 2) (p := 77) rfl ?_); refine store_event (t := 2) (p := 77) (v := ?vo_w54) (w1 := (wr.setCell ⟨go43, ((rd t904 x33_2) : Int).toNat, none⟩ (.int .i64 x12_3))) ?hg ?ho ?hn ?hr ?_; (case ho => rfl); (case hg => rfl); (case hn => rfl); (case hr => first | (go_simp; done) | (go_simp; rfl)); intro w54 hw; have hg : wr.grownBy w54 (some go43) := (by rw [hw]; exact HP53.2); have hp_ : Kd.R (Kd.int .i64) 2 w54 w.heap.size (fun k_ => some k_ ≠ (v902 : Value).ownBlock ∧ some k_ ≠ (.slice (some ad907) t904.length co22 : Value).ownBlock ∧ some k_ ≠ (.slice (some ad907) t904.length co22 : Value).ownBlock ∧ some k_ ≠ (.slice Ao30 t909.length co30 : Value).ownBlock) (.slice (some ⟨go43, 0, none⟩) x6_2.length co52) y915 := (by rw [hw, Ny915.out]; exact HP53.1); clear HP53; have n0_ := Aside0.mk (hp_); have n1_ := Aside0.mk (Kd.R_after (v := (.slice (some ⟨go43, 0, none⟩) x6_2.length co52)) (v1 := (.slice (some ⟨go43, 0, none⟩) x6_2.length co52)) (ok := (fun k_ => some k_ ≠ (.slice (some ad907) t904.length co22 : Value).ownBlock ∧ some k_ ≠ (.slice (some ad907) t904.length co22 : Value).ownBlock ∧ some k_ ≠ (.slice Ao30 t909.length co30 : Value).ownBlock)) (by (with_reducible repeat (first | apply Kd.R_alloc | apply Kd.R_drewN | apply Kd.R_drew)); exact Kd.R_mono HO_7.out (fun _ hk => ⟨⟨hk.2.1, ⟨hk.2.2.1, hk.2.2.2⟩⟩, hk.1⟩)) hg (.inl rfl)); have n2_ := Aside0.mk (Kd.R_after (v := (.slice (some ⟨go43, 0, none⟩) x6_2.length co52)) (v1 := (.slice (some ⟨go43, 0, none⟩) x6_2.length co52)) (ok := (fun k_ => some k_ ≠ (v902 : Value).ownBlock ∧ some k_ ≠ (.slice Ao30 t909.length co30 : Value).ownBlock)) (by (with_reducible repeat (first | apply Kd.R_alloc | apply Kd.R_drewN | apply Kd.R_drew)); exact Kd.R_mono HO_9.out (fun _ hk => ⟨⟨hk.2.1, hk.2.2⟩, hk.1⟩)) hg (.inl rfl)); have n3_ := Aside0.mk (Kd.R_after (v := (.slice (some ⟨go43, 0, none⟩) x6_2.length co52)) (v1 := (.slice (some ⟨go43, 0, none⟩) x6_2.length co52)) (ok := (fun k_ => some k_ ≠ (v902 : Value).ownBlock ∧ some k_ ≠ (.slice Ao30 t909.length co30 : Value).ownBlock)) (by (with_reducible repeat (first | apply Kd.R_alloc | apply Kd.R_drewN | apply Kd.R_drew)); exact Kd.R_mono HO_31.out (fun _ hk => ⟨⟨hk.2.1, hk.2.2⟩, hk.1⟩)) hg (.inl rfl)); have n4_ := Aside0.mk (Kd.R_after (v := (.slice (some ⟨go43, 0, none⟩) x6_2.length co52)) (v1 := (.slice (some ⟨go43, 0, none⟩) x6_2.length co52)) (ok := (fun k_ => some k_ ≠ (v902 : Value).ownBlock ∧ some k_ ≠ (.slice (some ad907) t904.length co22 : Value).ownBlock ∧ some k_ ≠ (.slice (some ad907) t904.length co22 : Value).ownBlock)) (by (with_reducible repeat (first | apply Kd.R_alloc | apply Kd.R_drewN | apply Kd.R_drew)); exact Kd.R_mono HO_43.out (fun _ hk => ⟨⟨hk.2.1, ⟨hk.2.2.1, hk.2.2.2⟩⟩, hk.1⟩)) hg (.inl rfl)); have n5_ := Aside0.mk (blk_grown (g := gb893) (o := .cells #[.int .i64 a0_0, .slice (some ad908) l0_1.length c0_1] 26 (0, 0)) (by (with_reducible repeat (first | refine blk_drewN ?_ _ | refine blk_drew ?_ | refine blk_alloc ?_ _)); exact BK893.out) hg (Kd.R_ne HO_6.out BK893.out (by decide))); have n6_ := Aside0.mk ((by rw [hw]; exact below_set (HB.out) GB43.out : Below w.heap.size w w54)); clear HO_6; clear HO_7; clear HO_9; clear HO_31; clear HO_43; clear BK893; clear HB; have HO_6 := n0_; have HO_7 := n1_; have HO_9 := n2_; have HO_31 := n3_; have HO_43 := n4_; have BK893 := n5_; have HB := n6_; clear n0_ n1_ n2_ n3_ n4_ n5_ n6_; clear hg hw hp_; have p916 : 0 ≤ ((rd t904 x33_2) : Int) := of_decide_eq_true (by first | (with_reducible assumption) | assumption); have q916 : (rd t904 x33_2) < (y915.length : Int) := (by have h_ : ((rd t904 x33_2) : Int) < ((x6_2.length : Int) : Int) := of_decide_eq_true (by first | (with_reducible assumption) | assumption); first | (have e_ := (Kd.R_reads' HO_6.out).1; omega) | simpa only [Ny915.out, List.length_set] using h_); have ql916 : (((rd t904 x33_2) : Int) < ((x6_2.length : Int) : Int)) = True := eq_true (of_decide_eq_true (by first | (with_reducible assumption) | assumption)); obtain ⟨ad916, e916, hx916_0⟩ := Kd.at_int (Kd.R_reads' HO_6.out).2.2 (rd t904 x33_2) p916 q916; obtain rfl : (⟨go43, 0, none⟩ : Addr) = ad916 := (by injection e916); (first | simp only [add_plain] at hx916_0 | simp only [add_at] at hx916_0 | simp only [Addr.add, Nat.zero_add] at hx916_0 | skip); replace p916 := eq_true p916; replace q916 := eq_true q916))
                                          go_ret3
                                          exact ⟨_, _, by first | rfl | (simp [errW_none, errW_some] <;> rfl) | (simp [*, errW_none, errW_some] <;> rfl), by first | exact Kd.R_nil _ _ _ _ _ | exact Kd.N_nil _ _ _ _ _ | exact Kd.V_nil _ _ _ _ _ | exact Kd.Q_nil _ _ _ _ _ | exact Kd.S_nil _ _ _ _ _, by first | exact Kd.R_nil _ _ _ _ _ | exact Kd.N_nil _ _ _ _ _ | exact Kd.V_nil _ _ _ _ _ | exact Kd.Q_nil _ _ _ _ _ | exact Kd.S_nil _ _ _ _ _, by repeat (first | (with_reducible first | exact HB.out | apply below_alloc | apply pw_below_drewN | apply below_drew1 | refine below_set ?_ GE893.out) | exact HB.out)⟩
                                      · rw [if_neg c42] at H
                                        have c42b0 : ((rd x6_2 (rd t904 x33_2)) == 0) = false := beq_eq_false_iff_ne.mpr c42
                                        have c42b1 : ((rd x6_2 (rd t904 x33_2)) != 0) = true := bne_iff_ne.mpr c42
                                        by_cases c55 : x12_3 = (rd x6_2 (rd t904 x33_2))
                                        · rw [if_pos c55] at H
                                          have c55b0 : (x12_3 == (rd x6_2 (rd t904 x33_2))) = true := beq_iff_eq.mpr c55
                                          have c55b1 : (x12_3 != (rd x6_2 (rd t904 x33_2))) = false := bne_eq_false_iff_eq.mpr c55
                                          clear c55
                                          by_cases c56 : x12_3 = 0
                                          · rw [if_pos c56] at H
                                            exfalso; have z42_ := beq_eq_false_iff_ne.mp c42b0; have z55_ := eq_of_beq c55b0; omega
                                          · rw [if_neg c56] at H
                                            have c56b0 : (x12_3 == 0) = false := beq_eq_false_iff_ne.mpr c56
                                            have c56b1 : (x12_3 != 0) = true := bne_iff_ne.mpr c56
                                            have H' := Aside0.mk H
                                            clear H
                                            obtain ⟨Ao58, co58, eo58⟩ := Kd.R_slice HO_6.out
                                            subst eo58
                                            have p914 : 0 ≤ ((rd t904 x33_2) : Int) := of_decide_eq_true (by first | (with_reducible assumption) | assumption)
                                            have q914 : (rd t904 x33_2) < (x6_2.length : Int) := of_decide_eq_true (by first | (with_reducible assumption) | assumption)
                                            obtain ⟨ad914, e914, hx914_0⟩ := Kd.at_int (Kd.R_reads' HO_6.out).2.2 (rd t904 x33_2) p914 q914
                                            cases e914
                                            replace p914 := eq_true p914
                                            replace q914 := eq_true q914
                                            have p917 : 0 ≤ ((rd t904 x33_2) : Int) := of_decide_eq_true (by first | (with_reducible assumption) | assumption)
                                            have q917 : (rd t904 x33_2) < (x6_2.length : Int) := of_decide_eq_true (by first | (with_reducible assumption) | assumption)
                                            obtain ⟨ad917, e917, hx917_0⟩ := Kd.at_int (Kd.R_reads' HO_6.out).2.2 (rd t904 x33_2) p917 q917
                                            obtain rfl : ad914 = ad917 := (by injection e917)
                                            replace p917 := eq_true p917
                                            replace q917 := eq_true q917
                                            go_wp2
                                            go_meet
                                            case rel => exact ⟨_, (x6_2), H', ⟨by have := HK1.out; have := HK2.out; have := HK3.out; first | omega | exact Nat.le_refl _⟩, ⟨by (with_reducible repeat (first | apply Kd.R_alloc | apply Kd.R_drewN | apply Kd.R_drew)); exact Kd.R_mono HO_6.out (fun _ hk => ⟨hk.1, ⟨hk.2.1, hk.2.2.1⟩⟩)⟩, ⟨by (with_reducible repeat (first | apply Kd.R_alloc | apply Kd.R_drewN | apply Kd.R_drew)); exact Kd.R_mono HO_7.out (fun _ hk => ⟨hk.1, ⟨hk.2.1, hk.2.2.1⟩⟩)⟩, ⟨by (with_reducible repeat (first | apply Kd.R_alloc | apply Kd.R_drewN | apply Kd.R_drew)); exact Kd.R_mono HO_9.out (fun _ hk => ⟨hk.1, hk.2.1⟩)⟩, ⟨by (with_reducible repeat (first | apply Kd.R_alloc | apply Kd.R_drewN | apply Kd.R_drew)); exact Kd.R_mono HO_31.out (fun _ hk => ⟨hk.1, hk.2.1⟩)⟩, ⟨by (with_reducible repeat (first | refine blk_drewN ?_ _ | refine blk_drew ?_ | refine blk_alloc ?_ _)); exact BK893.out⟩, ⟨by repeat (first | (with_reducible first | exact HB.out | apply below_alloc | apply pw_below_drewN | apply below_drew1 | refine below_set ?_ GE893.out) | exact HB.out)⟩⟩
                                        · rw [if_neg c55] at H
                                          have c55b0 : (x12_3 == (rd x6_2 (rd t904 x33_2))) = false := beq_eq_false_iff_ne.mpr c55
                                          have c55b1 : (x12_3 != (rd x6_2 (rd t904 x33_2))) = true := bne_iff_ne.mpr c55
                                          simp only [Option.some.injEq, Prod.mk.injEq] at H
                                          obtain ⟨rfl, rfl, rfl⟩ := H
                                          obtain ⟨Ao59, co59, eo59⟩ := Kd.R_slice HO_6.out
                                          subst eo59
                                          have p914 : 0 ≤ ((rd t904 x33_2) : Int) := of_decide_eq_true (by first | (with_reducible assumption) | assumption)
                                          have q914 : (rd t904 x33_2) < (x6_2.length : Int) := of_decide_eq_true (by first | (with_reducible assumption) | assumption)
                                          obtain ⟨ad914, e914, hx914_0⟩ := Kd.at_int (Kd.R_reads' HO_6.out).2.2 (rd t904 x33_2) p914 q914
                                          cases e914
                                          replace p914 := eq_true p914
                                          replace q914 := eq_true q914
                                          have p917 : 0 ≤ ((rd t904 x33_2) : Int) := of_decide_eq_true (by first | (with_reducible assumption) | assumption)
                                          have q917 : (rd t904 x33_2) < (x6_2.length : Int) := of_decide_eq_true (by first | (with_reducible assumption) | assumption)
                                          obtain ⟨ad917, e917, hx917_0⟩ := Kd.at_int (Kd.R_reads' HO_6.out).2.2 (rd t904 x33_2) p917 q917
                                          obtain rfl : ad914 = ad917 := (by injection e917)
                                          replace p917 := eq_true p917
                                          replace q917 := eq_true q917
                                          go_wp2
                                          go_ret3
                                          exact ⟨_, _, by first | rfl | (simp [errW_none, errW_some] <;> rfl) | (simp [*, errW_none, errW_some] <;> rfl), by first | exact Kd.R_nil _ _ _ _ _ | exact Kd.N_nil _ _ _ _ _ | exact Kd.V_nil _ _ _ _ _ | exact Kd.Q_nil _ _ _ _ _ | exact Kd.S_nil _ _ _ _ _, by first | exact Kd.R_nil _ _ _ _ _ | exact Kd.N_nil _ _ _ _ _ | exact Kd.V_nil _ _ _ _ _ | exact Kd.Q_nil _ _ _ _ _ | exact Kd.S_nil _ _ _ _ _, by repeat (first | (with_reducible first | exact HB.out | apply below_alloc | apply pw_below_drewN | apply below_drew1 | refine below_set ?_ GE893.out) | exact HB.out)⟩
                                    · rw [if_neg c41] at H
                                      exact absurd H (by simp)
                                  · rw [if_neg c40] at H
                                    exact absurd H (by simp)
                                · rw [if_neg c39] at H
                                  have c39b0 : decide ((rd t904 x33_2) < t897) = false := decide_eq_false c39
                                  clear c39
                                  (first | rw [c39b0] | (simp only [i64_w, i32_w]; rw [c39b0]) | skip)
                                  have H' := Aside0.mk H
                                  clear H
                                  go_wp2
                                  go_meet
                                  case rel => exact ⟨_, (x6_2), H', ⟨by have := HK1.out; have := HK2.out; have := HK3.out; first | omega | exact Nat.le_refl _⟩, ⟨by (with_reducible repeat (first | apply Kd.R_alloc | apply Kd.R_drewN | apply Kd.R_drew)); exact Kd.R_mono HO_6.out (fun _ hk => ⟨hk.1, ⟨hk.2.1, hk.2.2.1⟩⟩)⟩, ⟨by (with_reducible repeat (first | apply Kd.R_alloc | apply Kd.R_drewN | apply Kd.R_drew)); exact Kd.R_mono HO_7.out (fun _ hk => ⟨hk.1, ⟨hk.2.1, hk.2.2.1⟩⟩)⟩, ⟨by (with_reducible repeat (first | apply Kd.R_alloc | apply Kd.R_drewN | apply Kd.R_drew)); exact Kd.R_mono HO_9.out (fun _ hk => ⟨hk.1, hk.2.1⟩)⟩, ⟨by (with_reducible repeat (first | apply Kd.R_alloc | apply Kd.R_drewN | apply Kd.R_drew)); exact Kd.R_mono HO_31.out (fun _ hk => ⟨hk.1, hk.2.1⟩)⟩, ⟨by (with_reducible repeat (first | refine blk_drewN ?_ _ | refine blk_drew ?_ | refine blk_alloc ?_ _)); exact BK893.out⟩, ⟨by repeat (first | (with_reducible first | exact HB.out | apply below_alloc | apply pw_below_drewN | apply below_drew1 | refine below_set ?_ GE893.out) | exact HB.out)⟩⟩
                              case rest =>
                                clear HC38
                                try clear c1
                                try clear c2
                                try clear p2
                                try clear c3
                                try clear c4
                                try clear c4b0
                                try clear c4b1
                                try clear p4
                                try clear q4
                                try clear hx4
                                try clear hf4
                                try clear c5
                                try clear c5b0
                                try clear c5b1
                                try clear c6
                                try clear p6
                                try clear c7
                                try clear c8
                                try clear p9
                                try clear q9
                                try clear hx9
                                try clear c10
                                try clear c18
                                try clear c18b0
                                try clear c23
                                try clear c23b0
                                try clear c24
                                try clear c24b0
                                try clear c25
                                try clear c25b0
                                try clear c26
                                try clear c26b0
                                try clear c31
                                try clear c31b0
                                try clear c32
                                try clear c32b0
                                try clear c33
                                try clear c33b0
                                try clear c34
                                try clear c34b0
                                try clear c35
                                try clear c35b0
                                try clear c36
                                try clear c36b0
                                try clear c36b1
                                try clear c37
                                try clear c37b0
                                try clear c37b1
                                try clear c39
                                try clear c39b0
                                try clear c40
                                try clear c40b0
                                try clear c41
                                try clear c41b0
                                try clear c42
                                try clear c42b0
                                try clear c42b1
                                try clear p43
                                try clear q43
                                try clear hx43
                                try clear hf43
                                try clear c44
                                try clear c44b0
                                try clear c44b1
                                try clear c45
                                try clear c45b0
                                try clear c45b1
                                try clear c55
                                try clear c55b0
                                try clear c55b1
                                try clear c56
                                try clear c56b0
                                try clear c56b1
                                try clear hcz17_0
                                try clear hcz17_1
                                try clear hcz20_0
                                try clear hcz20_1
                                try clear hcz28_0
                                try clear hcz28_1
                                try clear hcz7_0
                                try clear hcz7_1
                                try clear hfz17_0
                                try clear hfz17_1
                                try clear hfz20_0
                                try clear hfz20_1
                                try clear hfz28_0
                                try clear hfz28_1
                                try clear hfz7_0
                                try clear hfz7_1
                                try clear hx43_0
                                try clear hx907_0
                                try clear hx908_0
                                try clear hx912_0
                                try clear hx913_0
                                try clear hx914_0
                                try clear hx916_0
                                try clear hx917_0
                                try clear p2
                                try clear p43
                                try clear p9
                                try clear p907
                                try clear p908
                                try clear p912
                                try clear p913
                                try clear p914
                                try clear p916
                                try clear p917
                                try clear q43
                                try clear q9
                                try clear q907
                                try clear q908
                                try clear q912
                                try clear q913
                                try clear q914
                                try clear q916
                                try clear q917
                                obtain ⟨kq, x6_37, HA, HJ37, HO_6, HO_7, HO_9, HO_31, BK893, HB⟩ := hcut
                                cases kq with
                                | zero => exact absurd HA.out (by simp [impl_Graph_arrays.j3])
                                | succ kj37 =>
                                  have H := HA.out
                                  clear HA
                                  simp only [impl_Graph_arrays.j3] at H
                                  by_cases c60 : (rd t904 x33_2) > 0
                                  · rw [if_pos c60] at H
                                    have c60b0 : decide (0 < (rd t904 x33_2)) = true := decide_eq_true c60
                                    clear c60
                                    obtain ⟨ji61, hji61⟩ : ∃ j_ : Int, (wrap64 ((rd t904 x33_2) - 1)) = j_ := ⟨_, rfl⟩
                                    replace H : (if 0 ≤ (ji61) then (if (ji61) < (x7_2.length : Int) then (if (rd x7_2 (ji61)) = 0 then ((some (x7_2.set ((ji61) : Int).toNat x13_3 : List Int)).bind fun y919 => (if x13_3 = (rd y919 (ji61)) then (impl_Graph_arrays.l1 kj37 t897 x6_37 y919 t904 a0_0 x25_1 t904 (t904.length : Int) (wrap64 (x33_2 + 1)) a0_0 l0_1) else (some (([] : List Int), ([] : List Int), false)))) else (if x13_3 = (rd x7_2 (ji61)) then (impl_Graph_arrays.l1 kj37 t897 x6_37 x7_2 t904 a0_0 x25_1 t904 (t904.length : Int) (wrap64 (x33_2 + 1)) a0_0 l0_1) else (some (([] : List Int), ([] : List Int), false)))) else (none)) else (none)) = some (r1, r2, r3) := by first | (rw [hji61] at H; exact H) | (simp only [hji61] at H ⊢; exact H)
                                    have hji61w : (IntKind.i64.wrap ((rd t904 x33_2) - 1)) = ji61 := (i64_w _).trans hji61
                                    by_cases c62 : 0 ≤ (ji61)
                                    · rw [if_pos c62] at H
                                      have c62b0 : decide (0 ≤ (ji61)) = true := decide_eq_true c62
                                      clear c62
                                      by_cases c63 : (ji61) < (x7_2.length : Int)
                                      · rw [if_pos c63] at H
                                        have c63b0 : decide ((ji61) < (x7_2.length : Int)) = true := decide_eq_true c63
                                        clear c63
                                        by_cases c64 : (rd x7_2 (ji61)) = 0
                                        · rw [if_pos c64] at H
                                          have c64b0 : ((rd x7_2 (ji61)) == 0) = true := beq_iff_eq.mpr c64
                                          have c64b1 : ((rd x7_2 (ji61)) != 0) = false := bne_eq_false_iff_eq.mpr c64
                                          clear c64
                                          obtain ⟨y919, hy919⟩ : ∃ y_ : List Int, y_ = (x7_2.set ((ji61) : Int).toNat x13_3) := ⟨_, rfl⟩
                                          replace H : (if x13_3 = (rd y919 (ji61)) then (impl_Graph_arrays.l1 kj37 t897 x6_37 y919 t904 a0_0 x25_1 t904 (t904.length : Int) (wrap64 (x33_2 + 1)) a0_0 l0_1) else (some (([] : List Int), ([] : List Int), false))) = some (r1, r2, r3) := by first | (rw [hy919]; with_reducible exact H) | (have H2_ := (Option.bind_some _ _).symm.trans H; rw [hy919]; with_reducible exact H2_) | (have H2_ := (Option.bind_some _ _).symm.trans H; with_reducible exact H2_) | with_reducible exact H | (rw [hy919]; exact H) | exact H
                                          have Ny919 := Aside0.mk hy919
                                          clear hy919
                                          by_cases c66 : x13_3 = (rd y919 (ji61))
                                          · rw [if_pos c66] at H
                                            have c66b0 : (x13_3 == (rd y919 (ji61))) = true := beq_iff_eq.mpr c66
                                            have c66b1 : (x13_3 != (rd y919 (ji61))) = false := bne_eq_false_iff_eq.mpr c66
                                            clear c66
                                            have H' := Aside0.mk H
                                            clear H
                                            obtain ⟨Ao67, co67, eo67⟩ := Kd.R_slice HO_7.out
                                            subst eo67
                                            have p918 : 0 ≤ ((ji61) : Int) := of_decide_eq_true (by first | (with_reducible assumption) | assumption)
                                            have q918 : (ji61) < (x7_2.length : Int) := of_decide_eq_true (by first | (with_reducible assumption) | assumption)
                                            obtain ⟨ad918, e918, hx918_0⟩ := Kd.at_int (Kd.R_reads' HO_7.out).2.2 (ji61) p918 q918
                                            cases e918
                                            replace p918 := eq_true p918
                                            replace q918 := eq_true q918
                                            have p65 : 0 ≤ ((ji61) : Int) := of_decide_eq_true (by first | (with_reducible assumption) | assumption)
                                            have q65 : ((ji61) : Int) < ((x7_2.length : Int) : Int) := of_decide_eq_true (by first | (with_reducible assumption) | assumption)
                                            obtain ⟨go65, co65, eo65, gb65, gl65, cl65, HG65⟩ := Kd.R_form HO_7.out (by omega)
                                            (first | cases eo65 | (injection eo65 with ea_ en_ ec_; (first | subst ea_ | (injection ea_ with ea_; subst ea_)); subst ec_; clear en_))
                                            have GB65 := Aside0.mk gb65
                                            have GG65 := Aside0.mk HG65
                                            clear gb65 gl65 HG65
                                            (first | simp only [add_plain] at hx918_0 | skip)
                                            obtain ⟨hx65_0, hf65_0⟩ := Kd.R_celln 0 HO_7.out ((ji61) : Int) p65 q65
                                            replace p65 := eq_true p65
                                            replace q65 := eq_true q65
                                            have HP68 := Kd.R_putg HO_7.out ((ji61) : Int) x13_3
                                            go_wp2_with (first | ((with_reducible refine gate_store (t := 2) (p := 100) rfl ?_); refine store_event (t := 2) (p := 100) (v := ?vo_w69) (w1 := (wc.setCell ⟨go65, ((ji61) : Int).toNat, none⟩ (.int .i64 x13_3))) ?hg ?ho ?hn ?hr ?_; (case ho => rfl); (case hg => rfl); (case hn => rfl); (case hr => first | (go_simp; done) | (go_simp; rfl)); intro w69 hw; have hg : wc.grownBy w69 (some go65) := (by rw [hw]; exact HP68.2); have hp_ : Kd.R (Kd.int .i64) 2 w69 w.heap.size (fun k_ => some k_ ≠ (v899 : Value).ownBlock ∧ some k_ ≠ (.slice (some ad907) t904.length co22 : Value).ownBlock ∧ some k_ ≠ (.slice (some ad907) t904.length co22 : Value).ownBlock) (.slice (some ⟨go65, 0, none⟩) x7_2.length co67) y919 := (by rw [hw, Ny919.out]; exact HP68.1); clear HP68; have n0_ := Aside0.mk (Kd.R_after (v := (.slice (some ⟨go65, 0, none⟩) x7_2.length co67)) (v1 := (.slice (some ⟨go65, 0, none⟩) x7_2.length co67)) (ok := (fun k_ => some k_ ≠ (.slice (some ad907) t904.length co22 : Value).ownBlock ∧ some k_ ≠ (.slice (some ad907) t904.length co22 : Value).ownBlock)) (by (with_reducible repeat (first | apply Kd.R_alloc | apply Kd.R_drewN | apply Kd.R_drew)); exact Kd.R_mono HO_6.out (fun _ hk => ⟨⟨hk.2.1, hk.2.2⟩, hk.1⟩)) hg (.inl rfl)); have n1_ := Aside0.mk (hp_); have n2_ := Aside0.mk (Kd.R_after (v := (.slice (some ⟨go65, 0, none⟩) x7_2.length co67)) (v1 := (.slice (some ⟨go65, 0, none⟩) x7_2.length co67)) (ok := (fun k_ => some k_ ≠ (v899 : Value).ownBlock)) (by (with_reducible repeat (first | apply Kd.R_alloc | apply Kd.R_drewN | apply Kd.R_drew)); exact HO_9.out) hg (.inl rfl)); have n3_ := Aside0.mk (Kd.R_after (v := (.slice (some ⟨go65, 0, none⟩) x7_2.length co67)) (v1 := (.slice (some ⟨go65, 0, none⟩) x7_2.length co67)) (ok := (fun k_ => some k_ ≠ (v899 : Value).ownBlock)) (by (with_reducible repeat (first | apply Kd.R_alloc | apply Kd.R_drewN | apply Kd.R_drew)); exact HO_31.out) hg (.inl rfl)); have n4_ := Aside0.mk (blk_grown (g := gb893) (o := .cells #[.int .i64 a0_0, .slice (some ad908) l0_1.length c0_1] 26 (0, 0)) (by (with_reducible repeat (first | refine blk_drewN ?_ _ | refine blk_drew ?_ | refine blk_alloc ?_ _)); exact BK893.out) hg (Kd.R_ne HO_7.out BK893.out (by decide))); have n5_ := Aside0.mk ((by rw [hw]; exact below_set (HB.out) GB65.out : Below w.heap.size w w69)); clear HO_6; clear HO_7; clear HO_9; clear HO_31; clear BK893; clear HB; have HO_6 := n0_; have HO_7 := n1_; have HO_9 := n2_; have HO_31 := n3_; have BK893 := n4_; have HB := n5_; clear n0_ n1_ n2_ n3_ n4_ n5_; clear hg hw hp_; have p920 : 0 ≤ ((ji61) : Int) := of_decide_eq_true (by first | (with_reducible assumption) | assumption); have q920 : (ji61) < (y919.length : Int) := (by have h_ : ((ji61) : Int) < ((x7_2.length : Int) : Int) := of_decide_eq_true (by first | (with_reducible assumption) | assumption); first | (have e_ := (Kd.R_reads' HO_7.out).1; omega) | simpa only [Ny919.out, List.length_set] using h_); have ql920 : (((ji61) : Int) < ((x7_2.length : Int) : Int)) = True := eq_true (of_decide_eq_true (by first | (with_reducible assumption) | assumption)); obtain ⟨ad920, e920, hx920_0⟩ := Kd.at_int (Kd.R_reads' HO_7.out).2.2 (ji61) p920 q920; obtain rfl : (⟨go65, 0, none⟩ : Addr) = ad920 := (by injection e920); (first | simp only [add_plain] at hx920_0 | simp only [add_at] at hx920_0 | simp only [Addr.add, Nat.zero_add] at hx920_0 | skip); replace p920 := eq_true p920; replace q920 := eq_true q920))
                                            go_roundg kj37
                                            case measure => have := HK1.out; have := HK2.out; have := HK3.out; have := HJ37.out; omega
                                            case rel => exact ⟨(x6_37), (y919), (wrap64 (x33_2 + 1)), (by first | rfl | (simp; done) | (simp [*]; done)), H', ⟨by have := HK1.out; have := HK2.out; have := HK3.out; have := HJ37.out; omega⟩, ⟨by (with_reducible repeat (first | apply Kd.R_alloc | apply Kd.R_drewN | apply Kd.R_drew)); exact Kd.R_mono HO_6.out (fun _ hk => ⟨hk.2, ⟨hk.1.1, hk.1.2⟩⟩)⟩, ⟨by (with_reducible repeat (first | apply Kd.R_alloc | apply Kd.R_drewN | apply Kd.R_drew)); exact HO_7.out⟩, ⟨by (with_reducible repeat (first | apply Kd.R_alloc | apply Kd.R_drewN | apply Kd.R_drew)); exact HO_9.out⟩, ⟨by (with_reducible repeat (first | apply Kd.R_alloc | apply Kd.R_drewN | apply Kd.R_drew)); exact HO_31.out⟩, ⟨by (with_reducible repeat (first | refine blk_drewN ?_ _ | refine blk_drew ?_ | refine blk_alloc ?_ _)); exact BK893.out⟩, ⟨by repeat (first | (with_reducible first | exact HB.out | apply below_alloc | apply pw_below_drewN | apply below_drew1 | refine below_set ?_ GE893.out) | exact HB.out)⟩⟩
                                          · rw [if_neg c66] at H
                                            have c66b0 : (x13_3 == (rd y919 (ji61))) = false := beq_eq_false_iff_ne.mpr c66
                                            have c66b1 : (x13_3 != (rd y919 (ji61))) = true := bne_iff_ne.mpr c66
                                            simp only [Option.some.injEq, Prod.mk.injEq] at H
                                            obtain ⟨rfl, rfl, rfl⟩ := H
                                            obtain ⟨Ao70, co70, eo70⟩ := Kd.R_slice HO_7.out
                                            subst eo70
                                            have p918 : 0 ≤ ((ji61) : Int) := of_decide_eq_true (by first | (with_reducible assumption) | assumption)
                                            have q918 : (ji61) < (x7_2.length : Int) := of_decide_eq_true (by first | (with_reducible assumption) | assumption)
                                            obtain ⟨ad918, e918, hx918_0⟩ := Kd.at_int (Kd.R_reads' HO_7.out).2.2 (ji61) p918 q918
                                            cases e918
                                            replace p918 := eq_true p918
                                            replace q918 := eq_true q918
                                            have p65 : 0 ≤ ((ji61) : Int) := of_decide_eq_true (by first | (with_reducible assumption) | assumption)
                                            have q65 : ((ji61) : Int) < ((x7_2.length : Int) : Int) := of_decide_eq_true (by first | (with_reducible assumption) | assumption)
                                            obtain ⟨go65, co65, eo65, gb65, gl65, cl65, HG65⟩ := Kd.R_form HO_7.out (by omega)
                                            (first | cases eo65 | (injection eo65 with ea_ en_ ec_; (first | subst ea_ | (injection ea_ with ea_; subst ea_)); subst ec_; clear en_))
                                            have GB65 := Aside0.mk gb65
                                            have GG65 := Aside0.mk HG65
                                            clear gb65 gl65 HG65
                                            (first | simp only [add_plain] at hx918_0 | skip)
                                            obtain ⟨hx65_0, hf65_0⟩ := Kd.R_celln 0 HO_7.out ((ji61) : Int) p65 q65
                                            replace p65 := eq_true p65
                                            replace q65 := eq_true q65
                                            have HP71 := Kd.R_putg HO_7.out ((ji61) : Int) x13_3
                                            go_wp2_with (first | ((with_reducible refine gate_store (t := 2) (p := 100) rfl ?_); refine store_event (t := 2) (p := 100) (v := ?vo_w72) (w1 := (wc.setCell ⟨go65, ((ji61) : Int).toNat, none⟩ (.int .i64 x13_3))) ?hg ?ho ?hn ?hr ?_; (case ho => rfl); (case hg => rfl); (case hn => rfl); (case hr => first | (go_simp; done) | (go_simp; rfl)); intro w72 hw; have hg : wc.grownBy w72 (some go65) := (by rw [hw]; exact HP71.2); have hp_ : Kd.R (Kd.int .i64) 2 w72 w.heap.size (fun k_ => some k_ ≠ (v899 : Value).ownBlock ∧ some k_ ≠ (.slice (some ad907) t904.length co22 : Value).ownBlock ∧ some k_ ≠ (.slice (some ad907) t904.length co22 : Value).ownBlock) (.slice (some ⟨go65, 0, none⟩) x7_2.length co70) y919 := (by rw [hw, Ny919.out]; exact HP71.1); clear HP71; have n0_ := Aside0.mk (Kd.R_after (v := (.slice (some ⟨go65, 0, none⟩) x7_2.length co70)) (v1 := (.slice (some ⟨go65, 0, none⟩) x7_2.length co70)) (ok := (fun k_ => some k_ ≠ (.slice (some ad907) t904.length co22 : Value).ownBlock ∧ some k_ ≠ (.slice (some ad907) t904.length co22 : Value).ownBlock)) (by (with_reducible repeat (first | apply Kd.R_alloc | apply Kd.R_drewN | apply Kd.R_drew)); exact Kd.R_mono HO_6.out (fun _ hk => ⟨⟨hk.2.1, hk.2.2⟩, hk.1⟩)) hg (.inl rfl)); have n1_ := Aside0.mk (hp_); have n2_ := Aside0.mk (Kd.R_after (v := (.slice (some ⟨go65, 0, none⟩) x7_2.length co70)) (v1 := (.slice (some ⟨go65, 0, none⟩) x7_2.length co70)) (ok := (fun k_ => some k_ ≠ (v899 : Value).ownBlock)) (by (with_reducible repeat (first | apply Kd.R_alloc | apply Kd.R_drewN | apply Kd.R_drew)); exact HO_9.out) hg (.inl rfl)); have n3_ := Aside0.mk (Kd.R_after (v := (.slice (some ⟨go65, 0, none⟩) x7_2.length co70)) (v1 := (.slice (some ⟨go65, 0, none⟩) x7_2.length co70)) (ok := (fun k_ => some k_ ≠ (v899 : Value).ownBlock)) (by (with_reducible repeat (first | apply Kd.R_alloc | apply Kd.R_drewN | apply Kd.R_drew)); exact HO_31.out) hg (.inl rfl)); have n4_ := Aside0.mk (blk_grown (g := gb893) (o := .cells #[.int .i64 a0_0, .slice (some ad908) l0_1.length c0_1] 26 (0, 0)) (by (with_reducible repeat (first | refine blk_drewN ?_ _ | refine blk_drew ?_ | refine blk_alloc ?_ _)); exact BK893.out) hg (Kd.R_ne HO_7.out BK893.out (by decide))); have n5_ := Aside0.mk ((by rw [hw]; exact below_set (HB.out) GB65.out : Below w.heap.size w w72)); clear HO_6; clear HO_7; clear HO_9; clear HO_31; clear BK893; clear HB; have HO_6 := n0_; have HO_7 := n1_; have HO_9 := n2_; have HO_31 := n3_; have BK893 := n4_; have HB := n5_; clear n0_ n1_ n2_ n3_ n4_ n5_; clear hg hw hp_; have p920 : 0 ≤ ((ji61) : Int) := of_decide_eq_true (by first | (with_reducible assumption) | assumption); have q920 : (ji61) < (y919.length : Int) := (by have h_ : ((ji61) : Int) < ((x7_2.length : Int) : Int) := of_decide_eq_true (by first | (with_reducible assumption) | assumption); first | (have e_ := (Kd.R_reads' HO_7.out).1; omega) | simpa only [Ny919.out, List.length_set] using h_); have ql920 : (((ji61) : Int) < ((x7_2.length : Int) : Int)) = True := eq_true (of_decide_eq_true (by first | (with_reducible assumption) | assumption)); obtain ⟨ad920, e920, hx920_0⟩ := Kd.at_int (Kd.R_reads' HO_7.out).2.2 (ji61) p920 q920; obtain rfl : (⟨go65, 0, none⟩ : Addr) = ad920 := (by injection e920); (first | simp only [add_plain] at hx920_0 | simp only [add_at] at hx920_0 | simp only [Addr.add, Nat.zero_add] at hx920_0 | skip); replace p920 := eq_true p920; replace q920 := eq_true q920))
                                            go_ret3
                                            exact ⟨_, _, by first | rfl | (simp [errW_none, errW_some] <;> rfl) | (simp only [← hji61]; first | rfl | (simp [errW_none, errW_some] <;> rfl)) | (simp [*, errW_none, errW_some] <;> rfl), by first | exact Kd.R_nil _ _ _ _ _ | exact Kd.N_nil _ _ _ _ _ | exact Kd.V_nil _ _ _ _ _ | exact Kd.Q_nil _ _ _ _ _ | exact Kd.S_nil _ _ _ _ _, by first | exact Kd.R_nil _ _ _ _ _ | exact Kd.N_nil _ _ _ _ _ | exact Kd.V_nil _ _ _ _ _ | exact Kd.Q_nil _ _ _ _ _ | exact Kd.S_nil _ _ _ _ _, by repeat (first | (with_reducible first | exact HB.out | apply below_alloc | apply pw_below_drewN | apply below_drew1 | refine below_set ?_ GE893.out) | exact HB.out)⟩
                                        · rw [if_neg c64] at H
                                          have c64b0 : ((rd x7_2 (ji61)) == 0) = false := beq_eq_false_iff_ne.mpr c64
                                          have c64b1 : ((rd x7_2 (ji61)) != 0) = true := bne_iff_ne.mpr c64
                                          by_cases c73 : x13_3 = (rd x7_2 (ji61))
                                          · rw [if_pos c73] at H
                                            have c73b0 : (x13_3 == (rd x7_2 (ji61))) = true := beq_iff_eq.mpr c73
                                            have c73b1 : (x13_3 != (rd x7_2 (ji61))) = false := bne_eq_false_iff_eq.mpr c73
                                            clear c73
                                            have H' := Aside0.mk H
                                            clear H
                                            obtain ⟨Ao74, co74, eo74⟩ := Kd.R_slice HO_7.out
                                            subst eo74
                                            have p918 : 0 ≤ ((ji61) : Int) := of_decide_eq_true (by first | (with_reducible assumption) | assumption)
                                            have q918 : (ji61) < (x7_2.length : Int) := of_decide_eq_true (by first | (with_reducible assumption) | assumption)
                                            obtain ⟨ad918, e918, hx918_0⟩ := Kd.at_int (Kd.R_reads' HO_7.out).2.2 (ji61) p918 q918
                                            cases e918
                                            replace p918 := eq_true p918
                                            replace q918 := eq_true q918
                                            have p921 : 0 ≤ ((ji61) : Int) := of_decide_eq_true (by first | (with_reducible assumption) | assumption)
                                            have q921 : (ji61) < (x7_2.length : Int) := of_decide_eq_true (by first | (with_reducible assumption) | assumption)
                                            obtain ⟨ad921, e921, hx921_0⟩ := Kd.at_int (Kd.R_reads' HO_7.out).2.2 (ji61) p921 q921
                                            obtain rfl : ad918 = ad921 := (by injection e921)
                                            replace p921 := eq_true p921
                                            replace q921 := eq_true q921
                                            go_wp2
                                            go_roundg kj37
                                            case measure => have := HK1.out; have := HK2.out; have := HK3.out; have := HJ37.out; omega
                                            case rel => exact ⟨(x6_37), (x7_2), (wrap64 (x33_2 + 1)), (by first | rfl | (simp; done) | (simp [*]; done)), H', ⟨by have := HK1.out; have := HK2.out; have := HK3.out; have := HJ37.out; omega⟩, ⟨by (with_reducible repeat (first | apply Kd.R_alloc | apply Kd.R_drewN | apply Kd.R_drew)); exact HO_6.out⟩, ⟨by (with_reducible repeat (first | apply Kd.R_alloc | apply Kd.R_drewN | apply Kd.R_drew)); exact HO_7.out⟩, ⟨by (with_reducible repeat (first | apply Kd.R_alloc | apply Kd.R_drewN | apply Kd.R_drew)); exact HO_9.out⟩, ⟨by (with_reducible repeat (first | apply Kd.R_alloc | apply Kd.R_drewN | apply Kd.R_drew)); exact HO_31.out⟩, ⟨by (with_reducible repeat (first | refine blk_drewN ?_ _ | refine blk_drew ?_ | refine blk_alloc ?_ _)); exact BK893.out⟩, ⟨by repeat (first | (with_reducible first | exact HB.out | apply below_alloc | apply pw_below_drewN | apply below_drew1 | refine below_set ?_ GE893.out) | exact HB.out)⟩⟩
                                          · rw [if_neg c73] at H
                                            have c73b0 : (x13_3 == (rd x7_2 (ji61))) = false := beq_eq_false_iff_ne.mpr c73
                                            have c73b1 : (x13_3 != (rd x7_2 (ji61))) = true := bne_iff_ne.mpr c73
                                            simp only [Option.some.injEq, Prod.mk.injEq] at H
                                            obtain ⟨rfl, rfl, rfl⟩ := H
                                            obtain ⟨Ao75, co75, eo75⟩ := Kd.R_slice HO_7.out
                                            subst eo75
                                            have p918 : 0 ≤ ((ji61) : Int) := of_decide_eq_true (by first | (with_reducible assumption) | assumption)
                                            have q918 : (ji61) < (x7_2.length : Int) := of_decide_eq_true (by first | (with_reducible assumption) | assumption)
                                            obtain ⟨ad918, e918, hx918_0⟩ := Kd.at_int (Kd.R_reads' HO_7.out).2.2 (ji61) p918 q918
                                            cases e918
                                            replace p918 := eq_true p918
                                            replace q918 := eq_true q918
                                            have p921 : 0 ≤ ((ji61) : Int) := of_decide_eq_true (by first | (with_reducible assumption) | assumption)
                                            have q921 : (ji61) < (x7_2.length : Int) := of_decide_eq_true (by first | (with_reducible assumption) | assumption)
                                            obtain ⟨ad921, e921, hx921_0⟩ := Kd.at_int (Kd.R_reads' HO_7.out).2.2 (ji61) p921 q921
                                            obtain rfl : ad918 = ad921 := (by injection e921)
                                            replace p921 := eq_true p921
                                            replace q921 := eq_true q921
                                            go_wp2
                                            go_ret3
                                            exact ⟨_, _, by first | rfl | (simp [errW_none, errW_some] <;> rfl) | (simp only [← hji61]; first | rfl | (simp [errW_none, errW_some] <;> rfl)) | (simp [*, errW_none, errW_some] <;> rfl), by first | exact Kd.R_nil _ _ _ _ _ | exact Kd.N_nil _ _ _ _ _ | exact Kd.V_nil _ _ _ _ _ | exact Kd.Q_nil _ _ _ _ _ | exact Kd.S_nil _ _ _ _ _, by first | exact Kd.R_nil _ _ _ _ _ | exact Kd.N_nil _ _ _ _ _ | exact Kd.V_nil _ _ _ _ _ | exact Kd.Q_nil _ _ _ _ _ | exact Kd.S_nil _ _ _ _ _, by repeat (first | (with_reducible first | exact HB.out | apply below_alloc | apply pw_below_drewN | apply below_drew1 | refine below_set ?_ GE893.out) | exact HB.out)⟩
                                      · rw [if_neg c63] at H
                                        exact absurd H (by simp)
                                    · rw [if_neg c62] at H
                                      exact absurd H (by simp)
                                  · rw [if_neg c60] at H
                                    have c60b0 : decide (0 < (rd t904 x33_2)) = false := decide_eq_false c60
                                    clear c60
                                    have H' := Aside0.mk H
                                    clear H
                                    go_wp2
                                    go_roundg kj37
                                    case measure => have := HK1.out; have := HK2.out; have := HK3.out; have := HJ37.out; omega
                                    case rel => exact ⟨(x6_37), (x7_2), (wrap64 (x33_2 + 1)), (by first | rfl | (simp; done) | (simp [*]; done)), H', ⟨by have := HK1.out; have := HK2.out; have := HK3.out; have := HJ37.out; omega⟩, ⟨by (with_reducible repeat (first | apply Kd.R_alloc | apply Kd.R_drewN | apply Kd.R_drew)); exact HO_6.out⟩, ⟨by (with_reducible repeat (first | apply Kd.R_alloc | apply Kd.R_drewN | apply Kd.R_drew)); exact HO_7.out⟩, ⟨by (with_reducible repeat (first | apply Kd.R_alloc | apply Kd.R_drewN | apply Kd.R_drew)); exact HO_9.out⟩, ⟨by (with_reducible repeat (first | apply Kd.R_alloc | apply Kd.R_drewN | apply Kd.R_drew)); exact HO_31.out⟩, ⟨by (with_reducible repeat (first | refine blk_drewN ?_ _ | refine blk_drew ?_ | refine blk_alloc ?_ _)); exact BK893.out⟩, ⟨by repeat (first | (with_reducible first | exact HB.out | apply below_alloc | apply pw_below_drewN | apply below_drew1 | refine below_set ?_ GE893.out) | exact HB.out)⟩⟩
                      · rw [if_neg c26] at H
                        exact absurd H (by simp)
                    · rw [if_neg c25] at H
                      exact absurd H (by simp)
                  · rw [if_neg c24] at H
                    exact absurd H (by simp)
                · rw [if_neg c23] at H
                  have c23b0 : decide (x33_2 < (t904.length : Int)) = false := decide_eq_false c23
                  clear c23
                  have H' := Aside0.mk H
                  clear H
                  go_wp2
                  go_roundg k2
                  case measure => have := HK1.out; have := HK2.out; omega
                  case rel => exact ⟨(x6_2), (x7_2), (wrap64 (x25_1 + 1)), (by first | rfl | (simp; done) | (simp [*]; done)), H', ⟨by have := HK1.out; have := HK2.out; omega⟩, ⟨by (with_reducible repeat (first | apply Kd.R_alloc | apply Kd.R_drewN | apply Kd.R_drew)); exact Kd.R_mono HO_6.out (fun _ hk => hk.1)⟩, ⟨by (with_reducible repeat (first | apply Kd.R_alloc | apply Kd.R_drewN | apply Kd.R_drew)); exact Kd.R_mono HO_7.out (fun _ hk => hk.1)⟩, ⟨by (with_reducible repeat (first | refine blk_drewN ?_ _ | refine blk_drew ?_ | refine blk_alloc ?_ _)); exact BK893.out⟩, ⟨by repeat (first | (with_reducible first | exact HB.out | apply below_alloc | apply pw_below_drewN | apply below_drew1 | refine below_set ?_ GE893.out) | exact HB.out)⟩⟩
          · rw [if_neg c18] at H
            have c18b0 : decide (x25_1 < a0_0) = false := decide_eq_false c18
            clear c18
            simp only [Option.some.injEq, Prod.mk.injEq] at H
            obtain ⟨rfl, rfl, rfl⟩ := H
            go_wp2
            go_ret3
            exact ⟨_, _, by first | rfl | (simp [errW_none, errW_some] <;> rfl) | (simp [*, errW_none, errW_some] <;> rfl), by (with_reducible repeat (first | apply Kd.R_alloc | apply Kd.R_drewN | apply Kd.R_drew)); exact HO_6.out, by (with_reducible repeat (first | apply Kd.R_alloc | apply Kd.R_drewN | apply Kd.R_drew)); exact HO_7.out, by repeat (first | (with_reducible first | exact HB.out | apply below_alloc | apply pw_below_drewN | apply below_drew1 | refine below_set ?_ GE893.out) | exact HB.out)⟩
    · rw [if_neg c5] at H
      exact absurd H (by simp)
  · rw [if_neg c4] at H
    exact absurd H (by simp)

end Go.Proofs.YtkmpkcofddpdgaaDoor.P
