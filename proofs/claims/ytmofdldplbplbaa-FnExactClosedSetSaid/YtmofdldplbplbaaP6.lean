-- Printed by a program of this workplace (wip/xp/xp.py) over the kit's print.
import Derived.Test.YtmofdldplbplbaaP0
namespace Go.Proofs.Ytmofdldplbplbaa.P
open Go.RowKit Go.Proofs.YtmofdldplbplbaaW.PrintWords Go.Proofs.YtmofdldplbplbaaW.PrintLast Go.Proofs.YtmofdldplbplbaaW.PrintMore
attribute [local go_sem] max2_int min2_int max_two min_two max_three min_three max_four min_four   -- for this text's walks alone
set_option linter.unusedVariables false
set_option linter.unusedSimpArgs false

/-! ### slices_Compact_int64_int64: function 22 -/
def slices_Compact_int64_int64.ren : Go.Shelf.Ren := ⟨fun | 43 => 22 | n => n, fun | 22 => 24 | 23 => 2 | 3 => 3 | 4 => 4 | 0 => 0 | n => n, fun | n => n⟩
theorem slices_Compact_int64_int64.laid : Go.Proofs.SlLaysN.n43 Try.prog slices_Compact_int64_int64.ren where
  mixed := by kernel_rfl
  f43 := ⟨Try.f22.name, by decide, Try.func22.trans (congrArg some (by kernel_rfl))⟩
  t0 := Try.underlying0
  a0 := Try.isAgg0
  z0 := Try.sizeOf0
  v0 := Try.zeroValue0
  t3 := Try.underlying3
  a3 := Try.isAgg3
  z3 := Try.sizeOf3
  v3 := Try.zeroValue3
  t4 := Try.underlying4
  a4 := Try.isAgg4
  z4 := Try.sizeOf4
  v4 := Try.zeroValue4
  t22 := Try.underlying24
  a22 := Try.isAgg24
  z22 := Try.sizeOf24
  v22 := Try.zeroValue24
  t23 := Try.underlying2
  a23 := Try.isAgg2
  z23 := Try.sizeOf2
  v23 := Try.zeroValue2
  i23 := by kernel_rfl
theorem slices_Compact_int64_int64.cells (s m : List Int) (cells : Array Value) (h : (s ++ m).length ≤ cells.size) : (Go.Sort.putCells (Value.int .i64) 0 (s ++ m).toArray cells).toList.take s.length = s.map (Value.int .i64) := by
  rw [List.length_append] at h
  apply List.ext_getElem
  · simp [Go.Sort.putCells]
    omega
  · intro i h1 h2
    have hi : i < s.length := by simpa using h2
    simp [Go.Sort.putCells]
    rw [if_pos (by omega), List.getElem?_append_left hi]
    simp [hi]
theorem slices_Compact_int64_int64.len (l : List Int) : (Lib.compact l).length ≤ l.length := by
  unfold Lib.compact Lib.compactUpTo
  rw [List.length_map]
  exact Nat.le_trans (List.length_filter_le _ _) (by simp)
def slices_Compact_int64_int64.f (l0 : List Int) : Option (List Int) := if l0.length < 1000000 then some (Lib.compact l0) else none
theorem slices_Compact_int64_int64.calls (P0_ : Nat → Prop) (u9000_ : Value) (l0 : List Int) (r : List Int) (w0 w : World) (hB : Below w0.heap.size w0 w) (ho0 : Kd.R (Kd.int .i64) 2 w w0.heap.size P0_ u9000_ l0) (h : slices_Compact_int64_int64.f l0 = some r) :
    Calls Try.prog 22 #[u9000_] w fun e w' => ∃ v_ : Value, e = .returned v_ ∧ Kd.R (Kd.int .i64) 2 w' w0.heap.size P0_ v_ r ∧ Below w0.heap.size w0 w' ∧ Kept w w' (fun k_ => P0_ k_) := by
  unfold slices_Compact_int64_int64.f at h
  split at h
  case isFalse => cases h
  case isTrue hm =>
  obtain rfl := Option.some.inj h
  clear h
  have ho1 := ho0
  obtain ⟨hok, inner, ⟨hin, hown⟩, hr⟩ := ho0
  rcases hown with ⟨he, h0⟩ | ⟨g, cap, cur, he, hb, hh, hnc, hcm, hcs, ht⟩
  · have hl : l0 = [] := List.eq_nil_of_length_eq_zero h0
    subst hl
    subst he
    have hcon := AnyG.slices_Compact_int_empty slices_Compact_int64_int64.laid none 0 w
    change Calls Try.prog 22 _ _ _ at hcon
    refine hcon.mono ?_
    rintro e w' ⟨rfl, rfl⟩
    exact ⟨_, rfl, ho1, hB, Nat.le_refl _, fun _ _ _ => rfl⟩
  subst he
  have hlt := blk_lt hh
  have hR : Kd.R (Kd.int .i64) 2 w w0.heap.size P0_ (.slice (some ⟨g, 0, none⟩) l0.length cap) l0 := ⟨hok, inner, ⟨hin, .inr ⟨g, cap, cur, rfl, hb, hh, hnc, hcm, hcs, ht⟩⟩, hr⟩
  have hH : Go.Sort.Holds (Value.int .i64) w g 0 l0.toArray := by
    intro j hj
    have hj' : j < l0.length := by simpa using hj
    obtain ⟨a, b⟩ := Kd.R_cell 0 hR (j : Int) (by omega) (by omega)
    rw [Int.toNat_natCast] at a b
    refine ⟨?_, by simpa using b⟩
    simp only [Nat.zero_add]
    rw [a]
    simp [rdOf, List.getD_eq_getElem?_getD, hj']
  have hcon := AnyG.slices_Compact_int slices_Compact_int64_int64.laid g 0 cap l0 w hH (by omega) hnc
  change Calls Try.prog 22 _ _ _ at hcon
  refine hcon.mono ?_
  rintro e w' ⟨rfl, n, rfl⟩
  have hs : (Lib.compact l0).length ≤ l0.length := slices_Compact_int64_int64.len l0
  generalize (Lib.compact l0) = s at hs ⊢
  have hm2 : (s ++ List.replicate (l0.length - s.length) (0 : Int)).length = l0.length := by simp; omega
  generalize List.replicate (l0.length - s.length) (0 : Int) = m at hm2 ⊢
  have far : ∀ k, k < w.heap.size → k ≠ g → (Go.Sort.putRow (Value.int .i64) (Go.Sort.ahead w n) g 0 (s ++ m).toArray).heap[k]? = w.heap[k]? := by
    intro k hk hne
    show (w.heap.modify g (Go.Sort.onCells (Go.Sort.putCells (Value.int .i64) 0 (s ++ m).toArray)))[k]? = _
    rw [Array.getElem?_modify, if_neg (Ne.symm hne)]
  have own : (Go.Sort.putRow (Value.int .i64) (Go.Sort.ahead w n) g 0 (s ++ m).toArray).heap[g]? = some (.cells (Go.Sort.putCells (Value.int .i64) 0 (s ++ m).toArray cur) 2 (0, 0)) := by
    show (w.heap.modify g (Go.Sort.onCells (Go.Sort.putCells (Value.int .i64) 0 (s ++ m).toArray)))[g]? = _
    rw [Array.getElem?_modify, if_pos rfl, hh]
    rfl
  have size : w.heap.size ≤ (Go.Sort.putRow (Value.int .i64) (Go.Sort.ahead w n) g 0 (s ++ m).toArray).heap.size := by
    simp [Go.Sort.putRow, Go.Sort.mapBlock, Go.Sort.ahead]
  have hc : (s ++ m).length ≤ cur.size := by rw [hcs, hm2]; simp [Kd.int, Kd.scalar]; omega
  have hc2 : (Go.Sort.putCells (Value.int .i64) 0 (s ++ m).toArray cur).size = cur.size := by simp [Go.Sort.putCells]
  refine ⟨_, rfl, ⟨fun k hk => hok k hk, s.map (Value.int .i64), ⟨?_, .inr ⟨g, cap, _, rfl, hb, own, by omega, hcm, by rw [hc2]; exact hcs, ?_⟩⟩, ?_⟩, ?_, size, fun k hk hP => far k hk (fun e => hP (e ▸ hok g rfl))⟩
  · rw [List.length_map]; exact (Nat.mul_one _).symm
  · exact (congrArg (fun m => List.take m _) (Nat.mul_one s.length)).trans (slices_Compact_int64_int64.cells s m cur hc)
  · refine ⟨by rw [List.length_map]; exact (Nat.mul_one _).symm, fun j p hj => ?_⟩
    obtain ⟨hjl, rfl⟩ := List.getElem?_eq_some_iff.1 hj
    show List.take 1 (List.drop (j * 1) (List.map (Value.int .i64) s)) = [.int .i64 s[j]]
    rw [Nat.mul_one, List.drop_eq_getElem_cons (by simpa using hjl)]
    simp
  · exact ⟨hB.os, hB.tape, hB.output, Nat.le_trans hB.size size, fun k hk => (far k (Nat.lt_of_lt_of_le hk hB.size) (by omega)).trans (hB.block k hk)⟩

end Go.Proofs.Ytmofdldplbplbaa.P
