/- Degrees: what both count. -/
import Derived.Test.YtcffgfomicpbfaaP13
import Derived.Test.YtcffgfomicpbfaaP5
import Derived.Test.YtcffgfomicpbfaaQGraph
import Derived.Test.YtcffgfomicpbfaaQInFn
import Derived.Test.YtcffgfomicpbfaaQPop
namespace Go.Proofs.Ytcffgfomicpbfaa.Q
open Go Go.RowKit Go.Proofs.Ytcffgfomicpbfaa.P Go.Proofs.YtcffgfomicpbfaaW.PrintWords Go.Proofs.YtcffgfomicpbfaaW.PrintMore

theorem s_bits_l0 (n : Nat) : ∀ (x : Nat) (acc : Int), x < 2 ^ n → n ≤ 63 → 0 ≤ acc → acc + n < 4611686018427387904 → Ev (fun k => spec_l01Bits.l0 k (x : Int) acc) (acc + pc n x) := by
  induction n with
  | zero =>
    intro x acc hx _ _ _
    refine ev_k ?_
    simp only [spec_l01Bits.l0]
    exact ev_neg (by omega) (ev_some (by simp [pc]))
  | succ n ih =>
    intro x acc hx hn h0 h1
    refine ev_k ?_
    simp only [spec_l01Bits.l0]
    have e1 : Int.tdiv (x : Int) 2 = ((x / 2 : Nat) : Int) := by rw [Int.tdiv_eq_ediv_of_nonneg (by omega)]; omega
    have e2 : Int.tmod (x : Int) 2 = ((x % 2 : Nat) : Int) := by rw [Int.tmod_eq_emod_of_nonneg (by omega)]; omega
    have p : (2 : Nat) ^ n ≤ 2 ^ 62 := Nat.pow_le_pow_right (by decide) (by omega)
    rw [Nat.pow_succ] at hx
    by_cases h : (x : Int) > 0
    · refine ev_pos h ?_
      rw [e1, e2, w64 (a := ((x / 2 : Nat) : Int)) (by omega) (by omega), w64 (a := acc + ((x % 2 : Nat) : Int)) (by omega) (by omega)]
      have := ih (x / 2) (acc + ((x % 2 : Nat) : Int)) (by omega) (by omega) (by omega) (by omega)
      simp only [pc]
      rwa [show acc + (((x % 2 + pc n (x / 2) : Nat)) : Int) = acc + ((x % 2 : Nat) : Int) + (pc n (x / 2) : Nat) by omega]
    · refine ev_neg h (ev_some ?_)
      obtain rfl : x = 0 := by omega
      rw [pc_zero]
      simp
theorem s_bits (x : Nat) (hx : x < 2 ^ 62) : Ev (fun k => spec_l01Bits.f k (x : Int)) (pc 64 x : Nat) := by
  unfold spec_l01Bits.f
  have := s_bits_l0 62 x 0 hx (by omega) (by omega) (by omega)
  rw [pc_big hx (by omega : 62 ≤ 64)]
  rwa [Int.zero_add] at this
theorem i_size (x : Nat) (hx : x < 2 ^ 62) : impl_size.f (x : Int) = some ((pc 64 x : Nat) : Int) := by
  unfold impl_size.f bits_OnesCount64.f
  rw [wu64 (a := (x : Int)) (by omega) (by omega)]
  rw [(mA x (by omega)).1, (mB x (by omega)).1, mC]
  have b := sC_bound x
  have s := swar x
  have p := pc_le 64 x
  have e1 : ((sC 8 x : Nat) : Int) + ((sC 8 x : Nat) : Int) / 256 = ((sC 8 x + sC 8 x / 256 : Nat) : Int) := by omega
  rw [e1, wu64 (a := ((sC 8 x + sC 8 x / 256 : Nat) : Int)) (by omega) (by omega)]
  generalize sC 8 x + sC 8 x / 256 = y at *
  have e2 : ((y : Nat) : Int) + ((y : Nat) : Int) / 65536 = ((y + y / 65536 : Nat) : Int) := by omega
  rw [e2, wu64 (a := ((y + y / 65536 : Nat) : Int)) (by omega) (by omega)]
  generalize y + y / 65536 = z at *
  have e3 : ((z : Nat) : Int) + ((z : Nat) : Int) / 4294967296 = ((z + z / 4294967296 : Nat) : Int) := by omega
  rw [e3, wu64 (a := ((z + z / 4294967296 : Nat) : Int)) (by omega) (by omega), w64 (by omega) (by omega)]
  generalize z + z / 4294967296 = t at *
  have e4 : bits .and .i64 ((t : Nat) : Int) 127 = ((t % 128 : Nat) : Int) := by
    have := and_nat t 127 (by omega) (by decide)
    rw [show ((127 : Nat) : Int) = 127 from rfl] at this
    rw [this]
    have := Nat.and_two_pow_sub_one_eq_mod t 7
    simpa using congrArg (fun n : Nat => (n : Int)) this
  rw [e4, s]
  rfl

/-- The degree of a vertex: the ones in its row. -/
def deg (l : List Int) (v : Int) : Int := (pc 64 (rd l v).toNat : Nat)
theorem deg_range (l : List Int) (v : Int) : 0 ≤ deg l v ∧ deg l v ≤ 64 := by
  have := pc_le 64 (rd l v).toNat
  unfold deg
  omega
/-- The degrees of the first m vertices. -/
def degs (l : List Int) (m : Nat) : List Int := (List.range m).map fun (j : Nat) => deg l (j : Int)
theorem degs_length (l : List Int) (m : Nat) : (degs l m).length = m := by simp [degs]
theorem degs_succ (l : List Int) (m : Nat) : degs l (m + 1) = degs l m ++ [deg l m] := by simp [degs, List.range_succ]
theorem degs_at (l : List Int) (m : Nat) (i : Int) (h0 : 0 ≤ i) (h1 : i < m) : rd (degs l m) i = deg l i := by
  have : i.toNat < m := by omega
  simp [rd, degs, List.getD_eq_getElem?_getD, this]
  congr 1
  omega
end Go.Proofs.Ytcffgfomicpbfaa.Q
