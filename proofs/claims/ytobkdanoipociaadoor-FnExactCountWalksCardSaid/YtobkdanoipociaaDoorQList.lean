/- The program's list of a row's digits, least first. -/
import Derived.Test.YtobkdanoipociaaDoorP8
import Derived.Test.YtobkdanoipociaaDoorP9
import Derived.Test.YtobkdanoipociaaDoorQBuild
import Derived.Lib.TrailingZeros
namespace Go.Proofs.YtobkdanoipociaaDoor.Q
open Go Go.RowKit Go.Proofs.YtobkdanoipociaaDoor.P Go.Proofs.YtobkdanoipociaaDoorW.PrintWords Go.Proofs.YtobkdanoipociaaDoorW.PrintMore
/-- The digits of x among m, .., m + d - 1, least first. -/
def onesFrom (x : Nat) : Nat → Nat → List Int
  | 0, _ => []
  | d + 1, m => if x.testBit m then (m : Int) :: onesFrom x d (m + 1) else onesFrom x d (m + 1)
theorem onesFrom_zero (d : Nat) : ∀ m, onesFrom 0 d m = [] := by
  induction d with
  | zero => intro m; rfl
  | succ d ih => intro m; simp [onesFrom, ih]
theorem onesFrom_congr (x y : Nat) (d : Nat) : ∀ m, (∀ i, m ≤ i → x.testBit i = y.testBit i) → onesFrom x d m = onesFrom y d m := by
  induction d with
  | zero => intro m _; rfl
  | succ d ih =>
    intro m h
    simp only [onesFrom]
    rw [h m (Nat.le_refl _), ih (m + 1) fun i hi => h i (by omega)]
theorem ctz_at {x m : Nat} (hx : x < 2 ^ 64) (hb : x.testBit m = true) (hl : ∀ i, i < m → x.testBit i = false) : Lib.ctz 64 x = m ∧ ∃ q, x = 2 ^ m * (2 * q + 1) := by
  have h0 : x ≠ 0 := by rintro rfl; simp at hb
  obtain ⟨q, e, _⟩ := Lib.ctzFrom_spec 64 x (by omega) hx
  have ec : Lib.ctz 64 x = Lib.ctzFrom 64 x := by simp [Lib.ctz, h0]
  have ht : ∀ i, x.testBit i = (decide (i ≥ Lib.ctzFrom 64 x) && (2 * q + 1).testBit (i - Lib.ctzFrom 64 x)) := fun i => by rw [← Nat.testBit_two_pow_mul, ← e]
  generalize Lib.ctzFrom 64 x = c at *
  have hc : c = m := by
    rcases Nat.lt_trichotomy c m with h | h | h
    · have a := hl c h
      rw [ht c] at a
      simp at a
    · exact h
    · rw [ht m] at hb
      have : ¬ m ≥ c := by omega
      simp [this] at hb
  subst hc
  exact ⟨ec, q, e⟩
theorem and_pred {m q : Nat} : (2 ^ m * (2 * q + 1)) &&& (2 ^ m * (2 * q + 1) - 1) = 2 ^ m * (2 * q) := by
  have p := Nat.two_pow_pos m
  have e : 2 ^ m * (2 * q + 1) - 1 = 2 ^ m * (2 * q) + (2 ^ m - 1) := by rw [Nat.mul_add]; omega
  rw [e]
  refine Nat.eq_of_testBit_eq fun i => ?_
  rw [Nat.testBit_and, Nat.testBit_two_pow_mul, Nat.testBit_two_pow_mul_add _ (by omega), Nat.testBit_two_pow_mul]
  by_cases h : i < m
  · have : ¬ i ≥ m := by omega
    simp [this]
  · have : i ≥ m := by omega
    simp only [this, decide_true, Bool.true_and, h, if_false]
    cases i - m with
    | zero => simp
    | succ j => simp [Nat.testBit_succ]; rw [show (2 * q + 1) / 2 = q by omega]; simp
theorem pred_bit {m q i : Nat} (h : m < i) : (2 ^ m * (2 * q)).testBit i = (2 ^ m * (2 * q + 1)).testBit i := by
  rw [Nat.testBit_two_pow_mul, Nat.testBit_two_pow_mul]
  obtain ⟨j, hj⟩ : ∃ j, i - m = j + 1 := ⟨i - m - 1, by omega⟩
  rw [hj, Nat.testBit_succ, Nat.testBit_succ, show (2 * q + 1) / 2 = 2 * q / 2 by omega]
theorem pred_low {m q i : Nat} (h : i < m + 1) : (2 ^ m * (2 * q)).testBit i = false := by
  rw [Nat.testBit_two_pow_mul]
  by_cases e : i = m
  · subst e
    simp
  · have : ¬ i ≥ m := by omega
    simp [this]
theorem i_list_l0 (d : Nat) : ∀ (m x : Nat) (acc : List Int), d + m = 62 → x < 2 ^ 62 → (∀ i, i < m → x.testBit i = false) → acc.length ≤ m → Ev (fun k => impl_list.l0 k (x : Int) acc) (acc ++ onesFrom x d m) := by
  have done : ∀ d m (acc : List Int), Ev (fun k => impl_list.l0 k ((0 : Nat) : Int) acc) (acc ++ onesFrom 0 d m) := by
    intro d m acc
    rw [onesFrom_zero, List.append_nil]
    refine ev_k ?_
    simp only [impl_list.l0]
    exact ev_pos rfl (Ev.now _)
  induction d with
  | zero =>
    intro m x acc hd hx hl ha
    have : x = 0 := by
      refine Nat.eq_of_testBit_eq fun i => ?_
      rw [Nat.zero_testBit]
      by_cases hi : i < m
      · exact hl i hi
      · exact Nat.testBit_lt_two_pow (Nat.lt_of_lt_of_le hx (Nat.pow_le_pow_right (by decide) (by omega)))
    subst this
    exact done 0 m acc
  | succ d ih =>
    intro m x acc hd hx hl ha
    by_cases hb : x.testBit m = true
    · obtain ⟨hc, q, e⟩ := ctz_at (Nat.lt_trans hx (by decide)) hb hl
      have x0 : x ≠ 0 := by rintro rfl; simp at hb
      have hq : 2 ^ m * (2 * q) < 2 ^ 62 := Nat.lt_of_le_of_lt (Nat.mul_le_mul_left _ (by omega)) (e ▸ hx)
      have := ih (m + 1) (2 ^ m * (2 * q)) (acc ++ [(m : Int)]) (by omega) hq (fun i hi => pred_low hi) (by simp; omega)
      have e2 : acc ++ onesFrom x (d + 1) m = acc ++ [(m : Int)] ++ onesFrom (2 ^ m * (2 * q)) d (m + 1) := by
        simp only [onesFrom, hb, if_true]
        rw [onesFrom_congr x (2 ^ m * (2 * q)) d (m + 1) fun i hi => by rw [pred_bit (by omega), ← e]]
        simp
      rw [e2]
      refine ev_k ?_
      simp only [impl_list.l0]
      refine ev_neg (by omega) ?_
      rw [wu64 (a := (x : Int)) (by omega) (by omega), w64 (a := (x : Int) - 1) (by omega) (by omega), show (x : Int) - 1 = ((x - 1 : Nat) : Int) by omega, and_nat x (x - 1) (by omega) (by omega)]
      have ex : x &&& (x - 1) = 2 ^ m * (2 * q) := by rw [e]; exact and_pred
      rw [ex]
      refine ev_bind0 (a := (m : Int)) ?_ (ev_pos (by omega) this)
      unfold bits_TrailingZeros64.f
      rw [if_pos (by omega), if_pos (by omega), Int.toNat_natCast, hc]
    · have := ih (m + 1) x acc (by omega) hx (fun i hi => if h : i = m then by rw [h]; simpa using hb else hl i (by omega)) (by omega)
      have e : onesFrom x (d + 1) m = onesFrom x d (m + 1) := by simp [onesFrom, hb]
      rwa [e]
/-- The digits of a row. -/
def ones (x : Int) : List Int := onesFrom x.toNat 62 0
theorem i_list {x : Int} (h0 : 0 ≤ x) (h1 : x < 4611686018427387904) : Ev (fun k => impl_list.f k x) (ones x) := by
  obtain ⟨y, rfl⟩ := Int.eq_ofNat_of_zero_le h0
  unfold impl_list.f ones
  rw [Int.toNat_natCast]
  have := i_list_l0 62 0 y [] (by omega) (by omega) (fun i hi => by omega) (by simp)
  simpa using this
theorem onesFrom_mem (x : Nat) (d : Nat) : ∀ m (v : Int), v ∈ onesFrom x d m ↔ ∃ i : Nat, v = (i : Int) ∧ m ≤ i ∧ i < m + d ∧ x.testBit i = true := by
  induction d with
  | zero => intro m v; simp [onesFrom]; intro i _ _; omega
  | succ d ih =>
    intro m v
    simp only [onesFrom]
    have s : (∃ i : Nat, v = (i : Int) ∧ m ≤ i ∧ i < m + (d + 1) ∧ x.testBit i = true) ↔ (v = (m : Int) ∧ x.testBit m = true) ∨ ∃ i : Nat, v = (i : Int) ∧ m + 1 ≤ i ∧ i < m + 1 + d ∧ x.testBit i = true := by
      constructor
      · rintro ⟨i, rfl, h1, h2, h3⟩
        by_cases e : i = m
        · subst e
          exact .inl ⟨rfl, h3⟩
        · exact .inr ⟨i, rfl, by omega, by omega, h3⟩
      · rintro (⟨rfl, h⟩ | ⟨i, rfl, h1, h2, h3⟩)
        · exact ⟨m, rfl, by omega, by omega, h⟩
        · exact ⟨i, rfl, by omega, by omega, h3⟩
    rw [s, ← ih]
    by_cases h : x.testBit m = true
    · rw [if_pos h]
      simp [h]
    · rw [if_neg h]
      simp [h]
theorem ones_mem {n x : Int} (n0 : 0 ≤ n) (n2 : n ≤ 62) (x0 : 0 ≤ x) (x1 : x < 2 ^ n.toNat) (v : Int) : v ∈ ones x ↔ 0 ≤ v ∧ v < n ∧ tb x v = true := by
  unfold ones
  rw [onesFrom_mem]
  constructor
  · rintro ⟨i, rfl, h1, h2, h3⟩
    have ht : tb x i = true := by rw [tb_toNat x0 (by omega)]; simpa using h3
    refine ⟨by omega, ?_, ht⟩
    by_cases h : (i : Int) < n
    · exact h
    · rw [tb_high x0 x1 n0 (by omega)] at ht
      cases ht
  · rintro ⟨h1, h2, h3⟩
    refine ⟨v.toNat, by omega, by omega, by omega, ?_⟩
    rwa [tb_toNat x0 h1] at h3
theorem onesFrom_length (x : Nat) (d : Nat) : ∀ m, (onesFrom x d m).length ≤ d := by
  induction d with
  | zero => intro m; simp [onesFrom]
  | succ d ih =>
    intro m
    simp only [onesFrom]
    have := ih (m + 1)
    split <;> simp <;> omega
theorem ones_length (x : Int) : (ones x).length ≤ 62 := onesFrom_length _ 62 0
end Go.Proofs.YtobkdanoipociaaDoor.Q
