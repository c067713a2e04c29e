-- Printed by a program of this workplace (wip/xp/xp.py) over the kit's print.
import Derived.Test.YtmofdldplbplbaaP0
namespace Go.Proofs.Ytmofdldplbplbaa.P
open Go.RowKit Go.Proofs.YtmofdldplbplbaaW.PrintWords Go.Proofs.YtmofdldplbplbaaW.PrintLast Go.Proofs.YtmofdldplbplbaaW.PrintMore
attribute [local go_sem] max2_int min2_int max_two min_two max_three min_three max_four min_four   -- for this text's walks alone
set_option linter.unusedVariables false
set_option linter.unusedSimpArgs false

/-! ### slices_Sort_int64_int64: function 19 -/
def slices_Sort_int64_int64.ren : Go.Shelf.Ren := ⟨fun | 5 => 19 | 8 => 29 | 7 => 28 | 19 => 44 | 20 => 45 | 10 => 35 | 11 => 36 | 12 => 37 | 13 => 38 | 14 => 39 | 15 => 40 | 16 => 41 | 17 => 42 | 18 => 43 | 30 => 48 | 31 => 49 | 32 => 50 | 33 => 51 | 34 => 52 | 35 => 53 | 40 => 54 | n => n, fun | 23 => 24 | 25 => 2 | 3 => 3 | 32 => 46 | 22 => 24 | 0 => 0 | 44 => 61 | 46 => 63 | 4 => 4 | 36 => 53 | 35 => 52 | 41 => 58 | 5 => 5 | 9 => 9 | 53 => 65 | 57 => 69 | 63 => 71 | 64 => 72 | n => n, fun | n => n⟩
theorem slices_Sort_int64_int64.laid : Go.Proofs.SlLaysM.n5 Try.prog slices_Sort_int64_int64.ren where
  mixed := by kernel_rfl
  f5 := ⟨Try.f19.name, by decide, Try.func19.trans (congrArg some (by kernel_rfl))⟩
  f7 := ⟨Try.f28.name, by decide, Try.func28.trans (congrArg some (by kernel_rfl))⟩
  f8 := Try.func29.trans (congrArg some (by kernel_rfl))
  f10 := ⟨Try.f35.name, by decide, Try.func35.trans (congrArg some (by kernel_rfl))⟩
  f11 := ⟨Try.f36.name, by decide, Try.func36.trans (congrArg some (by kernel_rfl))⟩
  f12 := ⟨Try.f37.name, by decide, Try.func37.trans (congrArg some (by kernel_rfl))⟩
  f13 := ⟨Try.f38.name, by decide, Try.func38.trans (congrArg some (by kernel_rfl))⟩
  f14 := ⟨Try.f39.name, by decide, Try.func39.trans (congrArg some (by kernel_rfl))⟩
  f15 := ⟨Try.f40.name, by decide, Try.func40.trans (congrArg some (by kernel_rfl))⟩
  f16 := ⟨Try.f41.name, by decide, Try.func41.trans (congrArg some (by kernel_rfl))⟩
  f17 := ⟨Try.f42.name, by decide, Try.func42.trans (congrArg some (by kernel_rfl))⟩
  f18 := ⟨Try.f43.name, by decide, Try.func43.trans (congrArg some (by kernel_rfl))⟩
  f19 := Try.func44.trans (congrArg some (by kernel_rfl))
  f20 := Try.func45.trans (congrArg some (by kernel_rfl))
  f30 := ⟨Try.f48.name, by decide, Try.func48.trans (congrArg some (by kernel_rfl))⟩
  f31 := Try.func49.trans (congrArg some (by kernel_rfl))
  f32 := Try.func50.trans (congrArg some (by kernel_rfl))
  f33 := ⟨Try.f51.name, by decide, Try.func51.trans (congrArg some (by kernel_rfl))⟩
  f34 := ⟨Try.f52.name, by decide, Try.func52.trans (congrArg some (by kernel_rfl))⟩
  f35 := ⟨Try.f53.name, by decide, Try.func53.trans (congrArg some (by kernel_rfl))⟩
  f40 := ⟨Try.f54.name, by decide, Try.func54.trans (congrArg some (by kernel_rfl))⟩
  t0 := Try.underlying0
  a0 := Try.isAgg0
  z0 := Try.sizeOf0
  v0 := Try.zeroValue0
  t3 := Try.underlying3
  a3 := Try.isAgg3
  z3 := Try.sizeOf3
  v3 := Try.zeroValue3
  t4 := Try.underlying4
  a4 := Try.isAgg4
  z4 := Try.sizeOf4
  v4 := Try.zeroValue4
  t5 := Try.underlying5
  a5 := Try.isAgg5
  z5 := Try.sizeOf5
  v5 := Try.zeroValue5
  t9 := Try.underlying9
  a9 := Try.isAgg9
  z9 := Try.sizeOf9
  v9 := Try.zeroValue9
  t22 := Try.underlying24
  a22 := Try.isAgg24
  z22 := Try.sizeOf24
  v22 := Try.zeroValue24
  t23 := Try.underlying24
  a23 := Try.isAgg24
  z23 := Try.sizeOf24
  v23 := Try.zeroValue24
  t25 := Try.underlying2
  a25 := Try.isAgg2
  z25 := Try.sizeOf2
  v25 := Try.zeroValue2
  t32 := Try.underlying46
  a32 := Try.isAgg46
  z32 := Try.sizeOf46
  v32 := Try.zeroValue46
  t35 := Try.underlying52
  a35 := Try.isAgg52
  z35 := Try.sizeOf52
  v35 := Try.zeroValue52
  t36 := Try.underlying53
  a36 := Try.isAgg53
  z36 := Try.sizeOf53
  v36 := Try.zeroValue53
  t41 := Try.underlying58
  a41 := Try.isAgg58
  z41 := Try.sizeOf58
  v41 := Try.zeroValue58
  t44 := Try.underlying61
  a44 := Try.isAgg61
  z44 := Try.sizeOf61
  v44 := Try.zeroValue61
  t46 := Try.underlying63
  a46 := Try.isAgg63
  z46 := Try.sizeOf63
  v46 := Try.zeroValue63
  t53 := Try.underlying65
  a53 := Try.isAgg65
  z53 := Try.sizeOf65
  v53 := Try.zeroValue65
  t57 := Try.underlying69
  a57 := Try.isAgg69
  z57 := Try.sizeOf69
  v57 := Try.zeroValue69
  t63 := Try.underlying71
  a63 := Try.isAgg71
  z63 := Try.sizeOf71
  v63 := Try.zeroValue71
  t64 := Try.underlying72
  a64 := Try.isAgg72
  z64 := Try.sizeOf72
  v64 := Try.zeroValue72
/-- The cells of a row that is sorted: the first ones hold the numbers. -/
theorem slices_Sort_int64_int64.cells (s : List Int) (cells : Array Value) (h : s.length ≤ cells.size) : (Go.Sort.putCells (Value.int .i64) 0 s.toArray cells).toList.take s.length = s.map (Value.int .i64) := by
  apply List.ext_getElem
  · simp [Go.Sort.putCells]
    omega
  · intro i h1 h2
    have hi : i < s.length := by simpa using h2
    simp [Go.Sort.putCells, hi]
def slices_Sort_int64_int64.f (l0 : List Int) : Option (List Int) := if l0.length < 1000000 then some (l0.mergeSort fun x y => decide (x ≤ y)) else none
theorem slices_Sort_int64_int64.calls (P0_ : Nat → Prop) (u9000_ : Value) (l0 : List Int) (r : List Int) (w0 w : World) (hB : Below w0.heap.size w0 w) (ho0 : Kd.R (Kd.int .i64) 2 w w0.heap.size P0_ u9000_ l0) (h : slices_Sort_int64_int64.f l0 = some r) :
    Calls Try.prog 19 #[u9000_] w fun e w' => e = .returned (.tuple #[]) ∧ Kd.R (Kd.int .i64) 2 w' w0.heap.size (fun k_ => (P0_ k_ ∨ w.heap.size ≤ k_)) u9000_ r ∧ Below w0.heap.size w0 w' ∧ Kept w w' (fun k_ => P0_ k_) := by
  unfold slices_Sort_int64_int64.f at h
  split at h
  case isFalse => cases h
  case isTrue hm =>
  obtain rfl := Option.some.inj h
  clear h
  have ho1 := ho0
  obtain ⟨hok, inner, ⟨hin, hown⟩, hr⟩ := ho0
  rcases hown with ⟨he, h0⟩ | ⟨g, cap, cur, he, hb, hh, hnc, hcm, hcs, ht⟩
  · have hl : l0 = [] := List.eq_nil_of_length_eq_zero h0
    subst hl
    subst he
    have hcon := AnyM.slices_Sort_int_none slices_Sort_int64_int64.laid none 0 w
    change Calls Try.prog 19 _ _ _ at hcon
    refine hcon.mono ?_
    rintro e w' ⟨rfl, rfl⟩
    exact ⟨rfl, by simpa using Kd.R_mono ho1 (fun _ hk => .inl hk), hB, Nat.le_refl _, fun _ _ _ => rfl⟩
  subst he
  have hlt := blk_lt hh
  have hR : Kd.R (Kd.int .i64) 2 w w0.heap.size P0_ (.slice (some ⟨g, 0, none⟩) l0.length cap) l0 := ⟨hok, inner, ⟨hin, .inr ⟨g, cap, cur, rfl, hb, hh, hnc, hcm, hcs, ht⟩⟩, hr⟩
  have hH : Go.Sort.Holds (Value.int .i64) w g 0 l0.toArray := by
    intro j hj
    have hj' : j < l0.length := by simpa using hj
    obtain ⟨a, b⟩ := Kd.R_cell 0 hR (j : Int) (by omega) (by omega)
    rw [Int.toNat_natCast] at a b
    refine ⟨?_, by simpa using b⟩
    simp only [Nat.zero_add]
    rw [a]
    simp [rdOf, List.getD_eq_getElem?_getD, hj']
  have hcon := AnyM.slices_Sort_int slices_Sort_int64_int64.laid g 0 cap l0 w hH hlt (by omega)
  change Calls Try.prog 19 _ _ _ at hcon
  refine hcon.mono ?_
  rintro e w' ⟨rfl, n, os, rfl⟩
  have hs : (l0.mergeSort fun x y => decide (x ≤ y)).length = l0.length := List.length_mergeSort _
  generalize (l0.mergeSort fun x y => decide (x ≤ y)) = s at hs ⊢
  have far : ∀ k, k < w.heap.size → k ≠ g → (Go.Sort.grow (Go.Sort.putRow (Value.int .i64) (Go.Sort.ahead w n) g 0 s.toArray) os).heap[k]? = w.heap[k]? := by
    intro k hk hne
    show ((w.heap.modify g (Go.Sort.onCells (Go.Sort.putCells (Value.int .i64) 0 s.toArray))) ++ os)[k]? = _
    rw [Array.getElem?_append_left (by simpa using hk), Array.getElem?_modify, if_neg (Ne.symm hne)]
  have own : (Go.Sort.grow (Go.Sort.putRow (Value.int .i64) (Go.Sort.ahead w n) g 0 s.toArray) os).heap[g]? = some (.cells (Go.Sort.putCells (Value.int .i64) 0 s.toArray cur) 2 (0, 0)) := by
    show ((w.heap.modify g (Go.Sort.onCells (Go.Sort.putCells (Value.int .i64) 0 s.toArray))) ++ os)[g]? = _
    rw [Array.getElem?_append_left (by simpa using hlt), Array.getElem?_modify, if_pos rfl, hh]
    rfl
  have size : w.heap.size ≤ (Go.Sort.grow (Go.Sort.putRow (Value.int .i64) (Go.Sort.ahead w n) g 0 s.toArray) os).heap.size := by
    simp [Go.Sort.grow, Go.Sort.putRow, Go.Sort.mapBlock, Go.Sort.ahead]
  have hc : s.length ≤ cur.size := by rw [hcs, hs]; simp [Kd.int, Kd.scalar]; omega
  have hc2 : (Go.Sort.putCells (Value.int .i64) 0 s.toArray cur).size = cur.size := by simp [Go.Sort.putCells]
  refine ⟨rfl, ⟨fun k hk => .inl (hok k hk), s.map (Value.int .i64), ⟨?_, .inr ⟨g, cap, _, by rw [hs], hb, own, by omega, hcm, by rw [hc2]; exact hcs, ?_⟩⟩, ?_⟩, ?_, size, fun k hk hP => far k hk (fun e => hP (e ▸ hok g rfl))⟩
  · rw [List.length_map]; exact (Nat.mul_one _).symm
  · exact (congrArg (fun m => List.take m _) (Nat.mul_one s.length)).trans (slices_Sort_int64_int64.cells s cur hc)
  · refine ⟨by rw [List.length_map]; exact (Nat.mul_one _).symm, fun j p hj => ?_⟩
    obtain ⟨hjl, rfl⟩ := List.getElem?_eq_some_iff.1 hj
    show List.take 1 (List.drop (j * 1) (List.map (Value.int .i64) s)) = [.int .i64 s[j]]
    rw [Nat.mul_one, List.drop_eq_getElem_cons (by simpa using hjl)]
    simp
  · exact ⟨hB.os, hB.tape, hB.output, Nat.le_trans hB.size size, fun k hk => (far k (Nat.lt_of_lt_of_le hk hB.size) (by omega)).trans (hB.block k hk)⟩

end Go.Proofs.Ytmofdldplbplbaa.P
