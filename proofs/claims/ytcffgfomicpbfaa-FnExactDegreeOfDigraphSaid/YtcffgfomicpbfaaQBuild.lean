/- Rows that are built bit by bit: no program in sight. -/
import Derived.Test.YtcffgfomicpbfaaQGraph
namespace Go.Proofs.Ytcffgfomicpbfaa.Q
open Go Go.RowKit Go.Proofs.YtcffgfomicpbfaaW.PrintWords Go.Proofs.YtcffgfomicpbfaaW.PrintMore

/-- n rows of n digits, of which those with P are set. -/
def Mx (n : Int) (l : List Int) (P : Int → Int → Prop) : Prop := (l.length : Int) = n ∧ ∀ v, 0 ≤ v → v < n → (0 ≤ rd l v ∧ rd l v < 2 ^ n.toNat) ∧ ∀ w, 0 ≤ w → w < n → (tb (rd l v) w = true ↔ P v w)

theorem Mx.imp {n : Int} {l : List Int} {P Q : Int → Int → Prop} (h : Mx n l P) (e : ∀ v w, 0 ≤ v → v < n → 0 ≤ w → w < n → (P v w ↔ Q v w)) : Mx n l Q :=
  ⟨h.1, fun v v0 v1 => ⟨(h.2 v v0 v1).1, fun w w0 w1 => ((h.2 v v0 v1).2 w w0 w1).trans (e v w v0 v1 w0 w1)⟩⟩
theorem rd_ext {a b : List Int} (hl : a.length = b.length) (h : ∀ v : Int, 0 ≤ v → v < a.length → rd a v = rd b v) : a = b := by
  refine List.ext_getElem hl fun i h1 h2 => ?_
  have := h i (by omega) (by omega)
  simpa [rd, List.getD_eq_getElem?_getD, h1, h2] using this
theorem Mx.eq {n : Int} {a b : List Int} {P : Int → Int → Prop} (ha : Mx n a P) (hb : Mx n b P) (n0 : 0 ≤ n) : a = b := by
  refine rd_ext (by have := ha.1; have := hb.1; omega) fun v v0 v1 => ?_
  have v1 : v < n := by have := ha.1; omega
  obtain ⟨⟨a0, a1⟩, a2⟩ := ha.2 v v0 v1
  obtain ⟨⟨b0, b1⟩, b2⟩ := hb.2 v v0 v1
  exact tb_ext a0 a1 b0 b1 n0 fun i i0 i1 => Bool.eq_iff_iff.2 ((a2 i i0 i1).trans (b2 i i0 i1).symm)
theorem Mx.zero (n : Int) (n0 : 0 ≤ n) : Mx n (List.replicate n.toNat 0) (fun _ _ => False) := by
  refine ⟨by simp; omega, fun v v0 v1 => ?_⟩
  have e : rd (List.replicate n.toNat 0) v = 0 := by
    have : v.toNat < n.toNat := by omega
    simp [rd, List.getD_eq_getElem?_getD, this]
  rw [e]
  have p : (0 : Int) < 2 ^ n.toNat := Int.pow_pos (by decide)
  refine ⟨⟨by omega, p⟩, fun w w0 w1 => ?_⟩
  simp [tb]
theorem Mx.rows {n : Int} {l : List Int} {P : Int → Int → Prop} (h : Mx n l P) (n1 : 1 ≤ n) (n2 : n ≤ 62) : rows n l := ⟨n1, n2, h.1, fun v v0 v1 => (h.2 v v0 v1).1⟩
theorem mx_of {n : Int} {l : List Int} (h : rows n l) : Mx n l (fun v w => tb (rd l v) w = true) := ⟨h.2.2.1, fun v v0 v1 => ⟨h.2.2.2 v v0 v1, fun _ _ _ => Iff.rfl⟩⟩
theorem rd_set {l : List Int} {i j : Int} (x : Int) (i0 : 0 ≤ i) (i1 : i < l.length) (j0 : 0 ≤ j) : rd (l.set i.toNat x) j = if j = i then x else rd l j := by
  simp only [rd, List.getD_eq_getElem?_getD, List.getElem?_set]
  by_cases h : j = i
  · subst h
    rw [if_pos rfl, if_pos rfl, if_pos (by omega)]
    rfl
  · rw [if_neg h, if_neg (by omega)]
/-- A digit set in a row. -/
theorem or_one {n x j : Int} (n2 : n ≤ 62) (x0 : 0 ≤ x) (x1 : x < 2 ^ n.toNat) (j0 : 0 ≤ j) (j1 : j < n) : (0 ≤ bits .or .i64 x (shl .i64 1 j) ∧ bits .or .i64 x (shl .i64 1 j) < 2 ^ n.toNat) ∧ ∀ w, 0 ≤ w → (tb (bits .or .i64 x (shl .i64 1 j)) w = true ↔ tb x w = true ∨ w = j) := by
  have e : ((2 : Int) ^ n.toNat) = ((2 ^ n.toNat : Nat) : Int) := by simp
  have p : 2 ^ n.toNat ≤ 2 ^ 62 := Nat.pow_le_pow_right (by decide) (by omega)
  have q : 2 ^ j.toNat < 2 ^ n.toNat := Nat.pow_lt_pow_right (by decide) (by omega)
  rw [e] at x1 ⊢
  obtain ⟨y, rfl⟩ := Int.eq_ofNat_of_zero_le x0
  rw [shl_one j0 (by omega), show ((2 : Int) ^ j.toNat) = ((2 ^ j.toNat : Nat) : Int) by simp, or_nat y (2 ^ j.toNat) (by omega) (by omega)]
  refine ⟨⟨by omega, ?_⟩, fun w w0 => ?_⟩
  · have := Nat.or_lt_two_pow (show y < 2 ^ n.toNat by omega) q
    omega
  · obtain ⟨w, rfl⟩ := Int.eq_ofNat_of_zero_le w0
    rw [tb_nat, tb_nat, Nat.testBit_or, Nat.testBit_two_pow]
    simp only [Bool.or_eq_true, decide_eq_true_eq]
    refine or_congr Iff.rfl ?_
    omega
theorem Mx.or {n : Int} {l : List Int} {P : Int → Int → Prop} (h : Mx n l P) (n2 : n ≤ 62) {i j : Int} (i0 : 0 ≤ i) (i1 : i < n) (j0 : 0 ≤ j) (j1 : j < n) : Mx n (l.set i.toNat (bits .or .i64 (rd l i) (shl .i64 1 j))) (fun v w => P v w ∨ (v = i ∧ w = j)) := by
  refine ⟨by simpa using h.1, fun v v0 v1 => ?_⟩
  rw [rd_set _ i0 (by have := h.1; omega) v0]
  obtain ⟨⟨a0, a1⟩, a2⟩ := h.2 v v0 v1
  by_cases hv : v = i
  · rw [if_pos hv]
    subst hv
    obtain ⟨b, b2⟩ := or_one n2 a0 a1 j0 j1
    exact ⟨b, fun w w0 w1 => (b2 w w0).trans (or_congr (a2 w w0 w1) (by simp))⟩
  · rw [if_neg hv]
    exact ⟨⟨a0, a1⟩, fun w w0 w1 => (a2 w w0 w1).trans (by simp [hv])⟩
end Go.Proofs.Ytcffgfomicpbfaa.Q
