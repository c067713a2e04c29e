/- Graphs by rows of bits, plainly: no program in sight. -/
import Derived.Test.YtcffgfomicpbfaaQBits
namespace Go.Proofs.Ytcffgfomicpbfaa.Q
open Go Go.RowKit Go.Proofs.YtcffgfomicpbfaaW.PrintWords

/-- Rows of n vertices. -/
def rows (n : Int) (l : List Int) : Prop := 1 ≤ n ∧ n ≤ 62 ∧ (l.length : Int) = n ∧ ∀ v, 0 ≤ v → v < n → 0 ≤ rd l v ∧ rd l v < 2 ^ n.toNat
/-- A graph: no loops, and the same both ways. -/
def isG (n : Int) (l : List Int) : Prop := rows n l ∧ (∀ v, 0 ≤ v → v < n → tb (rd l v) v = false) ∧ ∀ v w, 0 ≤ v → v < n → 0 ≤ w → w < n → tb (rd l v) w = tb (rd l w) v

theorem rows.nat {n : Int} {l : List Int} (h : rows n l) {v : Int} (h0 : 0 ≤ v) (h1 : v < n) : ∃ x : Nat, rd l v = (x : Int) ∧ x < 2 ^ n.toNat ∧ x < 2 ^ 62 := by
  obtain ⟨a, b, c, d⟩ := h
  obtain ⟨d0, d1⟩ := d v h0 h1
  have e : ((2 : Int) ^ n.toNat) = ((2 ^ n.toNat : Nat) : Int) := by simp
  have p : 2 ^ n.toNat ≤ 2 ^ 62 := Nat.pow_le_pow_right (by decide) (by omega)
  rw [e] at d1
  exact ⟨(rd l v).toNat, by omega, by omega, by omega⟩
end Go.Proofs.Ytcffgfomicpbfaa.Q
