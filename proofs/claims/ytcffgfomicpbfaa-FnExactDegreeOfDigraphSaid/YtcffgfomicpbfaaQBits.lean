/- Plain facts on rows of bits: no program in sight. -/
import Derived.Test.YtcffgfomicpbfaaQCore
import Derived.Laws.BitsLemmas
namespace Go.Proofs.Ytcffgfomicpbfaa.Q
open Go Go.RowKit Go.Proofs.YtcffgfomicpbfaaW.PrintWords Go.Proofs.YtcffgfomicpbfaaW.PrintLast Go.Proofs.YtcffgfomicpbfaaW.PrintMore

/-- Digit i of a whole number. -/
def tb (x i : Int) : Bool := decide (x / 2 ^ i.toNat % 2 = 1)

theorem wu64 {a : Int} (h0 : 0 ≤ a) (h1 : a < 18446744073709551616) : IntKind.u64.wrap a = a := by
  simp [IntKind.wrap, IntKind.bits, IntKind.signed]
  omega
theorem w64' (a : Int) : IntKind.i64.wrap a = wrap64 a := by
  rw [IntKind.wrap_i64]
  unfold wrap64
  rfl
theorem and_one (a : Int) : bits .and .i64 a 1 = a % 2 := by
  have e : (BitVec.ofInt 64 a &&& BitVec.ofInt 64 1).toNat = (a % 2).toNat := by
    rw [BitVec.toNat_and, show (BitVec.ofInt 64 1).toNat = 1 from rfl, Nat.and_one_is_mod, BitVec.toNat_ofInt]
    omega
  show IntKind.i64.wrap (((BitVec.ofInt 64 a &&& BitVec.ofInt 64 1).toNat : Nat) : Int) = a % 2
  rw [e, w64']
  rw [w64] <;> omega
theorem shr_at {x i : Int} (i0 : 0 ≤ i) (i1 : i ≤ 63) : shr .i64 x i = x / 2 ^ i.toNat := by
  unfold shr
  rw [Nat.min_eq_left (by simp [IntKind.bits]; omega)]
theorem bit_at {x i : Int} (i0 : 0 ≤ i) (i1 : i ≤ 63) : bits .and .i64 (shr .i64 x i) 1 = if tb x i then 1 else 0 := by
  rw [and_one, shr_at i0 i1]
  unfold tb
  have := Int.emod_two_eq (x / 2 ^ i.toNat)
  rcases this with h | h <;> simp [h]
theorem bit_is {x i : Int} (i0 : 0 ≤ i) (i1 : i ≤ 63) : (bits .and .i64 (shr .i64 x i) 1 == 1) = tb x i := by
  rw [bit_at i0 i1]
  cases tb x i <;> rfl
theorem bit_eq {x y i j : Int} (i0 : 0 ≤ i) (i1 : i ≤ 63) (j0 : 0 ≤ j) (j1 : j ≤ 63) : bits .and .i64 (shr .i64 x i) 1 = bits .and .i64 (shr .i64 y j) 1 ↔ tb x i = tb y j := by
  rw [bit_at i0 i1, bit_at j0 j1]
  cases tb x i <;> cases tb y j <;> simp
theorem two_pow_le {n : Int} (h0 : 0 ≤ n) (h1 : n ≤ 62) : (1 : Int) ≤ 2 ^ n.toNat ∧ (2 : Int) ^ n.toNat ≤ 4611686018427387904 := by
  have e : ((2 : Int) ^ n.toNat) = ((2 ^ n.toNat : Nat) : Int) := by simp
  have a : 2 ^ n.toNat ≤ 2 ^ 62 := Nat.pow_le_pow_right (by decide) (by omega)
  have b : 1 ≤ 2 ^ n.toNat := Nat.one_le_two_pow
  rw [e]
  omega
theorem shl_one {n : Int} (h0 : 0 ≤ n) (h1 : n ≤ 62) : shl .i64 1 n = 2 ^ n.toNat := by
  have := two_pow_le h0 h1
  unfold shl
  rw [Nat.min_eq_left (by simp [IntKind.bits]; omega), Int.one_mul, w64', w64] <;> omega
theorem tb_nat (x i : Nat) : tb (x : Int) (i : Int) = x.testBit i := by
  unfold tb
  rw [Nat.testBit_eq_decide_div_mod_eq]
  have : ((x : Int) / 2 ^ i) % 2 = ((x / 2 ^ i % 2 : Nat) : Int) := by simp
  rw [Int.toNat_natCast, this]
  exact decide_eq_decide.2 (by omega)
theorem tb_toNat {x i : Int} (h0 : 0 ≤ x) (i0 : 0 ≤ i) : tb x i = x.toNat.testBit i.toNat := by
  rw [← tb_nat, Int.toNat_of_nonneg h0, Int.toNat_of_nonneg i0]
/-- A row below 2^n has no digit from n on. -/
theorem tb_high {x i n : Int} (h0 : 0 ≤ x) (h1 : x < 2 ^ n.toNat) (n0 : 0 ≤ n) (hi : n ≤ i) : tb x i = false := by
  rw [tb_toNat h0 (by omega)]
  refine Nat.testBit_lt_two_pow ?_
  have e : ((2 : Int) ^ n.toNat) = ((2 ^ n.toNat : Nat) : Int) := by simp
  rw [e] at h1
  have : x.toNat < 2 ^ n.toNat := by omega
  exact Nat.lt_of_lt_of_le this (Nat.pow_le_pow_right (by decide) (by omega))
/-- Rows with the same digits are the same. -/
theorem tb_ext {x y n : Int} (x0 : 0 ≤ x) (x1 : x < 2 ^ n.toNat) (y0 : 0 ≤ y) (y1 : y < 2 ^ n.toNat) (n0 : 0 ≤ n) (h : ∀ i, 0 ≤ i → i < n → tb x i = tb y i) : x = y := by
  have : x.toNat = y.toNat := by
    refine Nat.eq_of_testBit_eq fun i => ?_
    by_cases hi : (i : Int) < n
    · have := h i (by omega) hi
      rwa [tb_toNat x0 (by omega), tb_toNat y0 (by omega), Int.toNat_natCast] at this
    · have a := tb_high (i := i) x0 x1 n0 (by omega)
      have b := tb_high (i := i) y0 y1 n0 (by omega)
      rw [tb_toNat x0 (by omega), Int.toNat_natCast] at a
      rw [tb_toNat y0 (by omega), Int.toNat_natCast] at b
      rw [a, b]
  omega
theorem and_nat (a b : Nat) (ha : a < 2 ^ 63) (hb : b < 2 ^ 63) : bits .and .i64 a b = ((a &&& b : Nat) : Int) :=
  (bits_nat .i64 63 (by decide) (fun n h0 h1 => by rw [w64', w64] <;> omega) a b ha hb).1
theorem or_nat (a b : Nat) (ha : a < 2 ^ 63) (hb : b < 2 ^ 63) : bits .or .i64 a b = ((a ||| b : Nat) : Int) :=
  (bits_nat .i64 63 (by decide) (fun n h0 h1 => by rw [w64', w64] <;> omega) a b ha hb).2
theorem uand_nat (a b : Nat) (ha : a < 2 ^ 64) (hb : b < 2 ^ 64) : bits .and .u64 a b = ((a &&& b : Nat) : Int) :=
  (bits_nat .u64 64 (by decide) (fun n h0 h1 => wu64 h0 (by omega)) a b ha hb).1
set_option linter.unusedVariables false in
theorem andNot_nat (a b : Nat) (ha : a < 2 ^ 63) (hb : b < 2 ^ 63) : ∃ c : Nat, bits .andNot .i64 a b = (c : Int) ∧ c < 2 ^ 63 ∧ ∀ i, c.testBit i = (a.testBit i && !b.testBit i) := by
  refine ⟨(BitVec.ofInt 64 a &&& ~~~ BitVec.ofInt 64 b).toNat, ?_, ?_, ?_⟩
  · show IntKind.i64.wrap (((BitVec.ofInt 64 a &&& ~~~ BitVec.ofInt 64 b).toNat : Nat) : Int) = _
    have : (BitVec.ofInt 64 a &&& ~~~ BitVec.ofInt 64 b).toNat < 2 ^ 63 := by
      simp only [BitVec.ofInt_natCast, BitVec.toNat_and, BitVec.toNat_ofNat]
      have : (a % 2 ^ 64 &&& (~~~ BitVec.ofNat 64 b).toNat) ≤ a % 2 ^ 64 := Nat.and_le_left
      have : a % 2 ^ 64 = a := Nat.mod_eq_of_lt (by omega)
      omega
    rw [w64', w64] <;> omega
  · simp only [BitVec.ofInt_natCast, BitVec.toNat_and, BitVec.toNat_ofNat]
    have : (a % 2 ^ 64 &&& (~~~ BitVec.ofNat 64 b).toNat) ≤ a % 2 ^ 64 := Nat.and_le_left
    have : a % 2 ^ 64 = a := Nat.mod_eq_of_lt (by omega)
    omega
  · intro i
    simp only [BitVec.ofInt_natCast]
    rw [BitVec.testBit_toNat, BitVec.getLsbD_and, BitVec.getLsbD_not, BitVec.getLsbD_ofNat, BitVec.getLsbD_ofNat]
    by_cases hi : i < 64
    · simp [hi]
    · simp [hi]
      intro h
      have := Nat.testBit_lt_two_pow (Nat.lt_of_lt_of_le ha (Nat.pow_le_pow_right (by decide) (show 63 ≤ i by omega)))
      simp [this] at h
end Go.Proofs.Ytcffgfomicpbfaa.Q
