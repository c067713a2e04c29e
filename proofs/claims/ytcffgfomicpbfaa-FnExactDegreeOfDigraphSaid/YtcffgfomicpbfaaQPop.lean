/- Counting the ones of a row of bits: two ways. No program in sight. -/
import Derived.Test.YtcffgfomicpbfaaQBits
namespace Go.Proofs.Ytcffgfomicpbfaa.Q
open Go Go.RowKit

/-- How many ones there are among the n lowest digits. -/
def pc : Nat → Nat → Nat
  | 0, _ => 0
  | n + 1, x => x % 2 + pc n (x / 2)
theorem pc_le (n : Nat) : ∀ x, pc n x ≤ n := by
  induction n with
  | zero => intro x; simp [pc]
  | succ n ih => intro x; simp only [pc]; have := ih (x / 2); omega
theorem pc_add (a : Nat) : ∀ b x, pc (a + b) x = pc a x + pc b (x / 2 ^ a) := by
  induction a with
  | zero => intro b x; simp [pc]
  | succ a ih =>
    intro b x
    rw [show a + 1 + b = (a + b) + 1 by omega]
    simp only [pc]
    rw [ih, Nat.div_div_eq_div_mul, Nat.pow_succ', Nat.add_assoc]
theorem pc_zero (n : Nat) : pc n 0 = 0 := by
  induction n with
  | zero => rfl
  | succ n ih => simp [pc, ih]
theorem pc_big {m n x : Nat} (h : x < 2 ^ m) (hn : m ≤ n) : pc n x = pc m x := by
  obtain ⟨b, rfl⟩ : ∃ b, n = m + b := ⟨n - m, by omega⟩
  rw [pc_add, Nat.div_eq_of_lt h, pc_zero]
  rfl

def rep (B d : Nat) : Nat → Nat
  | 0 => 0
  | n + 1 => rep B d n * B + d
theorem and_rep (w d n x : Nat) (hd : d < 2 ^ w) : x &&& rep (2 ^ w) d (n + 1) = (x / 2 ^ w &&& rep (2 ^ w) d n) * 2 ^ w + (x % 2 ^ w &&& d) := by
  have h1 : (x &&& rep (2 ^ w) d (n + 1)) / 2 ^ w = x / 2 ^ w &&& rep (2 ^ w) d n := by
    rw [Nat.and_div_two_pow]
    congr 1
    simp only [rep]
    rw [Nat.mul_comm, Nat.mul_add_div (Nat.two_pow_pos w), Nat.div_eq_of_lt hd]
    rfl
  have h2 : (x &&& rep (2 ^ w) d (n + 1)) % 2 ^ w = x % 2 ^ w &&& d := by
    rw [Nat.and_mod_two_pow]
    congr 1
    simp only [rep]
    rw [Nat.mul_comm, Nat.mul_add_mod, Nat.mod_eq_of_lt hd]
  have := Nat.div_add_mod (x &&& rep (2 ^ w) d (n + 1)) (2 ^ w)
  rw [h1, h2, Nat.mul_comm] at this
  exact this.symm

/-- Pairs. -/
def sA (n x : Nat) : Nat := (x / 2 &&& rep 4 1 n) + (x &&& rep 4 1 n)
theorem sA_succ (n x : Nat) : sA (n + 1) x = sA n (x / 4) * 4 + pc 2 x := by
  have a := and_rep 2 1 n (x / 2) (by decide)
  have b := and_rep 2 1 n x (by decide)
  simp only [show (2 : Nat) ^ 2 = 4 from rfl, Nat.and_one_is_mod] at a b
  unfold sA
  rw [a, b, show x / 2 / 4 = x / 8 by omega, show x / 4 / 2 = x / 8 by omega]
  simp only [pc]
  omega
theorem sA_mod (n x : Nat) : sA (n + 1) x % 4 = pc 2 x ∧ sA (n + 1) x / 4 = sA n (x / 4) := by
  have := pc_le 2 x
  rw [sA_succ]
  omega
theorem sA_lt (n : Nat) : ∀ x, sA n x < 4 ^ n ∨ n = 0 ∧ sA n x = 0 := by
  induction n with
  | zero => intro x; right; exact ⟨rfl, by simp [sA, rep]⟩
  | succ n ih =>
    intro x
    left
    have := pc_le 2 x
    rw [sA_succ, Nat.pow_succ]
    rcases ih (x / 4) with h | ⟨rfl, h⟩
    · omega
    · rw [h]; omega
theorem digs (q a b : Nat) (ha : a ≤ 2) (hb : b ≤ 2) : (q * 16 + b * 4 + a) / 4 / 16 = q / 4 ∧ (q * 16 + b * 4 + a) / 16 = q ∧ (q * 16 + b * 4 + a) / 4 % 16 % 4 = b ∧ (q * 16 + b * 4 + a) % 16 % 4 = a := by
  have e : (q * 16 + b * 4 + a) / 4 = q * 4 + b := by omega
  rw [e, Nat.mod_mod_of_dvd _ (by decide : 4 ∣ 16), Nat.mod_mod_of_dvd _ (by decide : 4 ∣ 16)]
  omega
theorem digs2 (q a b : Nat) (ha : a ≤ 4) (hb : b ≤ 4) (hq : q % 16 ≤ 4) : ((q * 256 + b * 16 + a) / 16 + (q * 256 + b * 16 + a)) / 256 = q / 16 + q ∧ ((q * 256 + b * 16 + a) / 16 + (q * 256 + b * 16 + a)) % 256 % 16 = a + b := by
  have e : (q * 256 + b * 16 + a) / 16 = q * 16 + b := by omega
  rw [e, Nat.mod_mod_of_dvd _ (by decide : 16 ∣ 256)]
  omega
/-- Fours. -/
def sB (n x : Nat) : Nat := (sA (2 * n) x / 4 &&& rep 16 3 n) + (sA (2 * n) x &&& rep 16 3 n)
theorem sB_succ (n x : Nat) : sB (n + 1) x = sB n (x / 16) * 16 + pc 4 x := by
  have e : sA (2 * (n + 1)) x = sA (2 * n) (x / 16) * 16 + pc 2 (x / 4) * 4 + pc 2 x := by
    rw [show 2 * (n + 1) = (2 * n + 1) + 1 by omega, sA_succ, sA_succ, show x / 4 / 4 = x / 16 by omega]
    omega
  have p1 := pc_le 2 x
  have p2 := pc_le 2 (x / 4)
  have p4 : pc 4 x = pc 2 x + pc 2 (x / 4) := pc_add 2 2 x
  have a := and_rep 4 3 n (sA (2 * (n + 1)) x / 4) (by decide)
  have b := and_rep 4 3 n (sA (2 * (n + 1)) x) (by decide)
  have m3 : ∀ y : Nat, y &&& 3 = y % 4 := fun y => by simpa using Nat.and_two_pow_sub_one_eq_mod y 2
  simp only [show (2 : Nat) ^ 4 = 16 from rfl, m3] at a b
  unfold sB
  rw [a, b]
  obtain ⟨e1, e2, e3, e4⟩ := digs (sA (2 * n) (x / 16)) _ _ p1 p2
  rw [e, e1, e2, e3, e4, p4]
  omega
theorem sB_zero (x : Nat) : sB 0 x = 0 := by simp [sB, rep]
theorem sB_lt (n : Nat) : ∀ x, sB n x < 16 ^ n ∧ sB n x % 16 ≤ 4 := by
  induction n with
  | zero => intro x; rw [sB_zero]; omega
  | succ n ih =>
    intro x
    have := pc_le 4 x
    have := (ih (x / 16)).1
    rw [sB_succ, Nat.pow_succ]
    omega
/-- Eights. -/
def sC (n x : Nat) : Nat := sB (2 * n) x / 16 + sB (2 * n) x &&& rep 256 15 n
theorem sC_succ (n x : Nat) : sC (n + 1) x = sC n (x / 256) * 256 + pc 8 x := by
  have e : sB (2 * (n + 1)) x = sB (2 * n) (x / 256) * 256 + pc 4 (x / 16) * 16 + pc 4 x := by
    rw [show 2 * (n + 1) = (2 * n + 1) + 1 by omega, sB_succ, sB_succ, show x / 16 / 16 = x / 256 by omega]
    omega
  have p1 := pc_le 4 x
  have p2 := pc_le 4 (x / 16)
  have p8 : pc 8 x = pc 4 x + pc 4 (x / 16) := pc_add 4 4 x
  have q := (sB_lt (2 * n) (x / 256)).2
  have a := and_rep 8 15 n (sB (2 * (n + 1)) x / 16 + sB (2 * (n + 1)) x) (by decide)
  have m15 : ∀ y : Nat, y &&& 15 = y % 16 := fun y => by simpa using Nat.and_two_pow_sub_one_eq_mod y 4
  simp only [show (2 : Nat) ^ 8 = 256 from rfl, m15] at a
  unfold sC
  rw [a]
  obtain ⟨e1, e2⟩ := digs2 (sB (2 * n) (x / 256)) _ _ p1 p2 q
  rw [e, e1, e2, p8]
theorem sC_eight (x : Nat) : sC 8 x = pc 8 x + 256 * pc 8 (x / 256) + 65536 * pc 8 (x / 65536) + 16777216 * pc 8 (x / 16777216) + 4294967296 * pc 8 (x / 4294967296) + 1099511627776 * pc 8 (x / 1099511627776) + 281474976710656 * pc 8 (x / 281474976710656) + 72057594037927936 * pc 8 (x / 72057594037927936) := by
  have z : ∀ y, sC 0 y = 0 := fun y => by simp [sC, rep]
  have s : ∀ n y q, sC (n + 1) (y / q) = sC n (y / (q * 256)) * 256 + pc 8 (y / q) := fun n y q => by rw [sC_succ, Nat.div_div_eq_div_mul]
  rw [show (8 : Nat) = 7 + 1 from rfl, sC_succ 7 x, s 6 x, s 5 x, s 4 x, s 3 x, s 2 x, s 1 x, s 0 x, z]
  simp only [Nat.reduceMul, Nat.reduceAdd]
  omega
theorem pc_eight (x : Nat) : pc 64 x = pc 8 x + pc 8 (x / 256) + pc 8 (x / 65536) + pc 8 (x / 16777216) + pc 8 (x / 4294967296) + pc 8 (x / 1099511627776) + pc 8 (x / 281474976710656) + pc 8 (x / 72057594037927936) := by
  have h : ∀ n y, pc (8 + n) y = pc 8 y + pc n (y / 256) := fun n y => pc_add 8 n y
  rw [show 64 = 8 + (8 + (8 + (8 + (8 + (8 + (8 + 8)))))) from rfl]
  simp only [h, Nat.div_div_eq_div_mul, Nat.reduceMul]
  omega
set_option maxHeartbeats 1000000 in
/-- Sixty-four. -/
theorem swar (x : Nat) : ((sC 8 x + sC 8 x / 256) + (sC 8 x + sC 8 x / 256) / 65536 + ((sC 8 x + sC 8 x / 256) + (sC 8 x + sC 8 x / 256) / 65536) / 4294967296) % 128 = pc 64 x := by
  rw [sC_eight, pc_eight]
  have a0 := pc_le 8 x
  have a1 := pc_le 8 (x / 256)
  have a2 := pc_le 8 (x / 65536)
  have a3 := pc_le 8 (x / 16777216)
  have a4 := pc_le 8 (x / 4294967296)
  have a5 := pc_le 8 (x / 1099511627776)
  have a6 := pc_le 8 (x / 281474976710656)
  have a7 := pc_le 8 (x / 72057594037927936)
  generalize pc 8 x = d0 at *
  generalize pc 8 (x / 256) = d1 at *
  generalize pc 8 (x / 65536) = d2 at *
  generalize pc 8 (x / 16777216) = d3 at *
  generalize pc 8 (x / 4294967296) = d4 at *
  generalize pc 8 (x / 1099511627776) = d5 at *
  generalize pc 8 (x / 281474976710656) = d6 at *
  generalize pc 8 (x / 72057594037927936) = d7 at *
  have e1 : (d0 + 256 * d1 + 65536 * d2 + 16777216 * d3 + 4294967296 * d4 + 1099511627776 * d5 + 281474976710656 * d6 + 72057594037927936 * d7) / 256 = d1 + 256 * d2 + 65536 * d3 + 16777216 * d4 + 4294967296 * d5 + 1099511627776 * d6 + 281474976710656 * d7 := by omega
  rw [e1]
  have e2 : (d0 + 256 * d1 + 65536 * d2 + 16777216 * d3 + 4294967296 * d4 + 1099511627776 * d5 + 281474976710656 * d6 + 72057594037927936 * d7 + (d1 + 256 * d2 + 65536 * d3 + 16777216 * d4 + 4294967296 * d5 + 1099511627776 * d6 + 281474976710656 * d7)) / 65536 = (d2 + d3) + 256 * (d3 + d4) + 65536 * (d4 + d5) + 16777216 * (d5 + d6) + 4294967296 * (d6 + d7) + 1099511627776 * d7 := by omega
  rw [e2]
  have e3 : (d0 + 256 * d1 + 65536 * d2 + 16777216 * d3 + 4294967296 * d4 + 1099511627776 * d5 + 281474976710656 * d6 + 72057594037927936 * d7 + (d1 + 256 * d2 + 65536 * d3 + 16777216 * d4 + 4294967296 * d5 + 1099511627776 * d6 + 281474976710656 * d7) + ((d2 + d3) + 256 * (d3 + d4) + 65536 * (d4 + d5) + 16777216 * (d5 + d6) + 4294967296 * (d6 + d7) + 1099511627776 * d7)) / 4294967296 = (d4 + d5 + d6 + d7) + 256 * (d5 + d6 + d7) + 65536 * (d6 + d7) + 16777216 * d7 := by omega
  rw [e3]
  omega
theorem sC_bound (x : Nat) : sC 8 x < 720575940379279360 := by
  rw [sC_eight]
  have a0 := pc_le 8 x
  have a1 := pc_le 8 (x / 256)
  have a2 := pc_le 8 (x / 65536)
  have a3 := pc_le 8 (x / 16777216)
  have a4 := pc_le 8 (x / 4294967296)
  have a5 := pc_le 8 (x / 1099511627776)
  have a6 := pc_le 8 (x / 281474976710656)
  have a7 := pc_le 8 (x / 72057594037927936)
  omega

/-- The machine's words for it. -/
theorem mA (x : Nat) (hx : x < 2 ^ 64) : IntKind.u64.wrap (bits .and .u64 ((x : Int) / 2) 6148914691236517205 + bits .and .u64 (x : Int) 6148914691236517205) = ((sA 32 x : Nat) : Int) ∧ sA 32 x < 2 ^ 64 := by
  have hb : sA 32 x < 2 ^ 64 := by rcases sA_lt 32 x with h | ⟨h, _⟩ <;> omega
  refine ⟨?_, hb⟩
  have e : rep 4 1 32 = 6148914691236517205 := by decide
  rw [show ((x : Int) / 2) = ((x / 2 : Nat) : Int) by omega, show (6148914691236517205 : Int) = ((6148914691236517205 : Nat) : Int) from rfl, uand_nat _ _ (by omega) (by decide), uand_nat _ _ hx (by decide)]
  rw [← e]
  rw [← Int.natCast_add]
  exact wu64 (by omega) (by unfold sA at hb; omega)
theorem mB (x : Nat) (hx : x < 2 ^ 64) : IntKind.u64.wrap (bits .and .u64 ((sA 32 x : Nat) / 4) 3689348814741910323 + bits .and .u64 (sA 32 x : Nat) 3689348814741910323) = ((sB 16 x : Nat) : Int) ∧ sB 16 x < 2 ^ 64 := by
  have ha := (mA x hx).2
  have hb : sB 16 x < 2 ^ 64 := (sB_lt 16 x).1
  refine ⟨?_, hb⟩
  have e : rep 16 3 16 = 3689348814741910323 := by decide
  rw [show (((sA 32 x : Nat) : Int) / 4) = ((sA 32 x / 4 : Nat) : Int) by omega, show (3689348814741910323 : Int) = ((3689348814741910323 : Nat) : Int) from rfl, uand_nat _ _ (by omega) (by decide), uand_nat _ _ ha (by decide)]
  rw [← e]
  rw [← Int.natCast_add]
  exact wu64 (by omega) (by unfold sB at hb; simp only [show 2 * 16 = 32 from rfl] at hb; omega)
theorem sB_half (x : Nat) : sB 16 x / 16 + sB 16 x < 2 ^ 64 := by
  have h := sB_succ 15 x
  have h1 := (sB_lt 15 (x / 16)).1
  have h2 := (sB_lt 15 (x / 16)).2
  have h3 := sB_succ 14 (x / 16)
  have e : sB 16 x < 6 * 16 ^ 15 := by
    have k : ∀ n y, sB n y * 15 + 4 ≤ 4 * 16 ^ n := by
      intro n
      induction n with
      | zero => intro y; rw [sB_zero]; omega
      | succ n ih =>
        intro y
        have := ih (y / 16)
        have := pc_le 4 y
        have p := Nat.one_le_two_pow (n := 4 * n)
        rw [sB_succ, Nat.pow_succ]
        have : 1 ≤ 16 ^ n := Nat.one_le_pow _ _ (by decide)
        omega
    have := k 16 x
    omega
  omega
theorem mC (x : Nat) : bits .and .u64 (IntKind.u64.wrap (((sB 16 x : Nat) : Int) / 16 + (sB 16 x : Nat))) 1085102592571150095 = ((sC 8 x : Nat) : Int) := by
  have hb := sB_half x
  have e : rep 256 15 8 = 1085102592571150095 := by decide
  rw [show (((sB 16 x : Nat) : Int) / 16 + (sB 16 x : Nat)) = ((sB 16 x / 16 + sB 16 x : Nat) : Int) by omega, wu64 (by omega) (by omega), show (1085102592571150095 : Int) = ((1085102592571150095 : Nat) : Int) from rfl, uand_nat _ _ hb (by decide)]
  rw [← e]
  rfl
end Go.Proofs.Ytcffgfomicpbfaa.Q
