/- Plain facts on the three kinds of small groups: no program in sight. -/
import Derived.Test.YtjebhipbdledfaaQCore
namespace Go.Proofs.Ytjebhipbdledfaa.Q
open Go Go.RowKit

/-- The groups: of numbers modulo p, of a p-gon, affine of a prime. -/
def gok (k p : Int) : Prop := (k = 0 ∧ 1 ≤ p ∧ p ≤ 62) ∨ (k = 1 ∧ 1 ≤ p ∧ p ≤ 31) ∨ (k = 2 ∧ (p = 2 ∨ p = 3 ∨ p = 5 ∨ p = 7))
def gord (k p : Int) : Int := if k = 0 then p else if k = 1 then 2 * p else p * (p - 1)
def gmul (k p x y : Int) : Int :=
  if k = 0 then (x + y) % p
  else if k = 1 then (if x < p then (y / p) % 2 * p + (x + y % p) % p else (1 + y / p) % 2 * p + (x - p - y % p + p) % p)
  else ((x / p + 1) * (y / p + 1) % p - 1) * p + ((x / p + 1) * (y % p) + x % p) % p

theorem div01 {p x : Int} (hp : 0 < p) (h0 : 0 ≤ x) (h1 : x < 2 * p) : (x < p ∧ x / p = 0 ∧ x % p = x) ∨ (p ≤ x ∧ x / p = 1 ∧ x % p = x - p) := by
  by_cases h : x < p
  · exact .inl ⟨h, Int.ediv_eq_zero_of_lt h0 h, Int.emod_eq_of_lt h0 h⟩
  · obtain ⟨a, b⟩ := (Int.ediv_emod_unique (a := x) (b := p) (q := 1) (r := x - p) hp).2 ⟨by omega, by omega, by omega⟩
    exact .inr ⟨by omega, a, b⟩

theorem mulmod {p a c : Int} (hp : p = 2 ∨ p = 3 ∨ p = 5 ∨ p = 7) (a0 : 1 ≤ a) (a1 : a < p) (c0 : 1 ≤ c) (c1 : c < p) : 1 ≤ a * c % p := by
  have ha : a = 1 ∨ a = 2 ∨ a = 3 ∨ a = 4 ∨ a = 5 ∨ a = 6 := by omega
  rcases hp with rfl | rfl | rfl | rfl <;> rcases ha with rfl | rfl | rfl | rfl | rfl | rfl <;> omega

theorem gord_pos {k p : Int} (h : gok k p) : 0 < gord k p ∧ gord k p ≤ 62 := by
  unfold gord
  rcases h with ⟨rfl, a, b⟩ | ⟨rfl, a, b⟩ | ⟨rfl, rfl | rfl | rfl | rfl⟩
  · simp; omega
  · simp; omega
  all_goals simp

theorem gmul_range {k p x y : Int} (h : gok k p) (x0 : 0 ≤ x) (x1 : x < gord k p) (y0 : 0 ≤ y) (y1 : y < gord k p) : 0 ≤ gmul k p x y ∧ gmul k p x y < gord k p := by
  rcases h with ⟨rfl, a, b⟩ | ⟨rfl, a, b⟩ | ⟨rfl, hp⟩
  · simp only [gmul, gord, if_true] at *
    exact ⟨Int.emod_nonneg _ (by omega), Int.emod_lt_of_pos _ (by omega)⟩
  · simp only [gmul, gord, show ¬ (1 : Int) = 0 by decide, if_true, if_false] at *
    have m1 := Int.emod_nonneg (x + y % p) (show p ≠ 0 by omega)
    have m2 := Int.emod_lt_of_pos (x + y % p) (show 0 < p by omega)
    have m3 := Int.emod_nonneg (x - p - y % p + p) (show p ≠ 0 by omega)
    have m4 := Int.emod_lt_of_pos (x - p - y % p + p) (show 0 < p by omega)
    rcases div01 (by omega) y0 y1 with ⟨_, e, _⟩ | ⟨_, e, _⟩ <;> rw [e] <;> split <;> simp only [show (0 : Int) % 2 = 0 by decide, show (1 : Int) % 2 = 1 by decide, show (1 + 0 : Int) % 2 = 1 by decide, show (1 + 1 : Int) % 2 = 0 by decide, Int.zero_mul, Int.one_mul] <;> omega
  · simp only [gmul, gord, show ¬ (2 : Int) = 0 by decide, show ¬ (2 : Int) = 1 by decide, if_false] at *
    have a0 : 1 ≤ x / p + 1 := by rcases hp with rfl | rfl | rfl | rfl <;> omega
    have a1 : x / p + 1 < p := by rcases hp with rfl | rfl | rfl | rfl <;> omega
    have c0 : 1 ≤ y / p + 1 := by rcases hp with rfl | rfl | rfl | rfl <;> omega
    have c1 : y / p + 1 < p := by rcases hp with rfl | rfl | rfl | rfl <;> omega
    have m := mulmod hp a0 a1 c0 c1
    rcases hp with rfl | rfl | rfl | rfl <;> omega

/-- Every element has an inverse. -/
theorem gmul_inv {k p x : Int} (h : gok k p) (x0 : 0 ≤ x) (x1 : x < gord k p) : ∃ y, 0 ≤ y ∧ y < gord k p ∧ gmul k p x y = 0 := by
  rcases h with ⟨rfl, a, b⟩ | ⟨rfl, a, b⟩ | ⟨rfl, hp⟩
  · simp only [gmul, gord, if_true] at *
    by_cases e : x = 0
    · exact ⟨0, by omega, by omega, by subst e; simp⟩
    · exact ⟨p - x, by omega, by omega, by rw [show x + (p - x) = p by omega]; simp⟩
  · simp only [gmul, gord, show ¬ (1 : Int) = 0 by decide, if_true, if_false] at *
    by_cases hx : x < p
    · simp only [hx, if_true]
      by_cases e : x = 0
      · exact ⟨0, by omega, by omega, by subst e; simp⟩
      · refine ⟨p - x, by omega, by omega, ?_⟩
        rcases div01 (p := p) (x := p - x) (by omega) (by omega) (by omega) with ⟨_, e1, e2⟩ | ⟨_, e1, e2⟩
        · rw [e1, e2, show x + (p - x) = p by omega]; simp
        · omega
    · refine ⟨x, x0, x1, ?_⟩
      simp only [hx, if_false]
      rcases div01 (p := p) (x := x) (by omega) (by omega) (by omega) with ⟨_, e1, e2⟩ | ⟨_, e1, e2⟩
      · omega
      · rw [e1, e2, show x - p - (x - p) + p = p by omega]; simp
  · have key : ∀ p ∈ [2, 3, 5, 7], ∀ x < p * (p - 1), ∃ y, y < p * (p - 1) ∧ gmul 2 (p : Nat) (x : Nat) (y : Nat) = 0 := by decide +kernel
    have hq : ∃ q : Nat, p = q ∧ q ∈ [2, 3, 5, 7] := by rcases hp with rfl | rfl | rfl | rfl <;> exact ⟨_, rfl, by decide⟩
    obtain ⟨q, rfl, hq⟩ := hq
    have g : gord 2 (q : Int) = ((q * (q - 1) : Nat) : Int) := by
      simp at hq
      rcases hq with rfl | rfl | rfl | rfl <;> simp [gord]
    rw [g] at x1 ⊢
    obtain ⟨y, hy, e⟩ := key q hq x.toNat (by omega)
    exact ⟨y, by omega, by omega, by rw [← e, Int.toNat_of_nonneg x0]⟩

/-- The powers of an element. -/
def gpow (k p x : Int) : Nat → Int
  | 0 => x
  | m + 1 => gmul k p (gpow k p x m) x
theorem gpow_range {k p x : Int} (h : gok k p) (x0 : 0 ≤ x) (x1 : x < gord k p) (m : Nat) : 0 ≤ gpow k p x m ∧ gpow k p x m < gord k p := by
  induction m with
  | zero => exact ⟨x0, x1⟩
  | succ m ih => exact gmul_range h ih.1 ih.2 x0 x1
theorem addmod (p x : Int) (m : Nat) (f : Nat → Int) (h0 : f 0 = x % p) (hs : ∀ m, f (m + 1) = (f m + x) % p) : f m = ((m : Int) + 1) * x % p := by
  induction m with
  | zero => simp [h0]
  | succ m ih =>
    rw [hs, ih, Int.emod_add_emod]
    congr 1
    rw [Int.natCast_succ, Int.add_mul ((m : Int) + 1) 1 x]
    omega
/-- One of the first 62 powers is the unit. -/
theorem gpow_zero {k p x : Int} (h : gok k p) (x0 : 0 ≤ x) (x1 : x < gord k p) : ∃ m : Nat, m ≤ 62 ∧ gpow k p x m = 0 := by
  have hh := h
  rcases h with ⟨rfl, a, b⟩ | ⟨rfl, a, b⟩ | ⟨rfl, hp⟩
  · have e := addmod p x (p - 1).toNat (gpow 0 p x) (by simp [gpow, gord] at *; exact (Int.emod_eq_of_lt x0 x1).symm) (fun m => by simp [gpow, gmul])
    refine ⟨(p - 1).toNat, by omega, ?_⟩
    rw [e, show (((p - 1).toNat : Nat) : Int) + 1 = p by omega]
    simp
  · by_cases hx : x < p
    · have low : ∀ m, gpow 1 p x m < p ∧ 0 ≤ gpow 1 p x m ∧ gpow 1 p x (m + 1) = (gpow 1 p x m + x) % p := by
        intro m
        have st : ∀ y, 0 ≤ y → y < p → gmul 1 p y x = (y + x) % p := by
          intro y y0 y1
          simp only [gmul, show ¬ (1 : Int) = 0 by decide, if_true, if_false, y1]
          rw [Int.ediv_eq_zero_of_lt x0 hx, Int.emod_eq_of_lt x0 hx]
          simp
        induction m with
        | zero => exact ⟨hx, x0, st x x0 hx⟩
        | succ m ih =>
          obtain ⟨i1, i2, i3⟩ := ih
          have r1 : gpow 1 p x (m + 1) < p := by rw [i3]; exact Int.emod_lt_of_pos _ (by omega)
          have r2 : 0 ≤ gpow 1 p x (m + 1) := by rw [i3]; exact Int.emod_nonneg _ (by omega)
          exact ⟨r1, r2, st _ r2 r1⟩
      have e := addmod p x (p - 1).toNat (gpow 1 p x) (by simp [gpow]; exact (Int.emod_eq_of_lt x0 hx).symm) (fun m => (low m).2.2)
      refine ⟨(p - 1).toNat, by omega, ?_⟩
      rw [e, show (((p - 1).toNat : Nat) : Int) + 1 = p by omega]
      simp
    · refine ⟨1, by omega, ?_⟩
      simp only [gord, show ¬ (1 : Int) = 0 by decide, if_true, if_false] at x1
      simp only [gpow, gmul, show ¬ (1 : Int) = 0 by decide, if_true, if_false, hx]
      rcases div01 (p := p) (x := x) (by omega) (by omega) (by omega) with ⟨_, e1, e2⟩ | ⟨_, e1, e2⟩
      · omega
      · rw [e1, e2, show x - p - (x - p) + p = p by omega]; simp
  · have key : ∀ p ∈ [2, 3, 5, 7], ∀ x < p * (p - 1), ∃ m, m ≤ 42 ∧ gpow 2 (p : Nat) (x : Nat) m = 0 := by decide +kernel
    have hq : ∃ q : Nat, p = q ∧ q ∈ [2, 3, 5, 7] := by rcases hp with rfl | rfl | rfl | rfl <;> exact ⟨_, rfl, by decide⟩
    obtain ⟨q, rfl, hq⟩ := hq
    have g : gord 2 (q : Int) = ((q * (q - 1) : Nat) : Int) := by
      simp at hq
      rcases hq with rfl | rfl | rfl | rfl <;> simp [gord]
    rw [g] at x1
    obtain ⟨m, hm, e⟩ := key q hq x.toNat (by omega)
    exact ⟨m, by omega, by rw [← e, Int.toNat_of_nonneg x0]⟩
end Go.Proofs.Ytjebhipbdledfaa.Q
