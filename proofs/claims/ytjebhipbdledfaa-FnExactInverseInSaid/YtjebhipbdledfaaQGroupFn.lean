/- What the program's and the reference's functions on groups come to. -/
import Derived.Test.YtjebhipbdledfaaP4
import Derived.Test.YtjebhipbdledfaaP5
import Derived.Test.YtjebhipbdledfaaQGroup
namespace Go.Proofs.Ytjebhipbdledfaa.Q
open Go Go.RowKit Go.Proofs.Ytjebhipbdledfaa.P Go.Proofs.YtjebhipbdledfaaW.PrintWords Go.Proofs.YtjebhipbdledfaaW.PrintMore
set_option linter.unusedSimpArgs false

instance (k p : Int) : Decidable (gok k p) := by unfold gok; infer_instance

theorem s_in (a b c : Int) : spec_l01In.f a b c = some (decide (b ≤ a ∧ a ≤ c)) := by
  unfold spec_l01In.f
  split
  · exact congrArg some (decide_eq_decide.2 (by omega))
  · exact congrArg some (decide_eq_false (by omega)).symm

theorem s_prime (q : Int) : spec_l05Prime.f q = some (decide (q = 2 ∨ q = 3 ∨ q = 5 ∨ q = 7)) := by
  unfold spec_l05Prime.f
  repeat' split
  all_goals simp [*]
  all_goals rfl
theorem i_prime (q : Int) : impl_isPrime.f q = some (decide (q = 2 ∨ q = 3 ∨ q = 5 ∨ q = 7)) := by
  unfold impl_isPrime.f
  repeat' split
  all_goals simp [*]
  all_goals rfl

theorem s_group (k p : Int) : spec_l05Is.f k p = some (decide (gok k p)) := by
  unfold spec_l05Is.f
  simp only [s_in, s_prime, Option.bind_some]
  repeat' split
  all_goals first | exact congrArg some (decide_eq_decide.2 (by unfold gok; omega)) | exact congrArg some (decide_eq_false (by unfold gok; omega)).symm
theorem i_group (k p : Int) : impl_IsGroup.f k p = some (decide (gok k p)) := by
  unfold impl_IsGroup.f
  simp only [i_prime, Option.bind_some]
  repeat' split
  all_goals first | exact congrArg some (decide_eq_decide.2 (by unfold gok; omega)) | exact congrArg some (decide_eq_false (by unfold gok; omega)).symm

theorem s_order {k p : Int} (h : gok k p) : spec_l05Order.f k p = some (gord k p) := by
  unfold spec_l05Order.f gord
  rcases h with ⟨rfl, a, b⟩ | ⟨rfl, a, b⟩ | ⟨rfl, rfl | rfl | rfl | rfl⟩
  · rfl
  · simp only [show ¬ (1 : Int) = 0 by decide, if_true, if_false]
    rw [w64 (by omega) (by omega)]
  all_goals (unfold wrap64; decide)
theorem i_order {k p : Int} (h : gok k p) : impl_Group_order.f k p = some (gord k p) := by
  unfold impl_Group_order.f gord
  rcases h with ⟨rfl, a, b⟩ | ⟨rfl, a, b⟩ | ⟨rfl, rfl | rfl | rfl | rfl⟩
  · rfl
  · simp only [show ¬ (1 : Int) = 0 by decide, if_true, if_false]
    rw [w64 (by omega) (by omega)]
  all_goals (unfold wrap64; decide)

theorem wl0 : wrap64 0 = 0 := w64 (by omega) (by omega)
theorem wl1 : wrap64 1 = 1 := w64 (by omega) (by omega)
theorem wl2 : wrap64 (1 + 1) = 2 := w64 (by omega) (by omega)
theorem wl01 : wrap64 (0 + 1) = 1 := w64 (by omega) (by omega)
theorem wl10 : wrap64 (1 + 0) = 1 := w64 (by omega) (by omega)
theorem wl00 : wrap64 (0 + 0) = 0 := w64 (by omega) (by omega)

theorem s_times {k p x y : Int} (h : gok k p) (x0 : 0 ≤ x) (x1 : x < gord k p) (y0 : 0 ≤ y) (y1 : y < gord k p) : spec_l05Times.f k p x y = some (gmul k p x y) := by
  unfold spec_l05Times.f gmul
  rcases h with ⟨rfl, a, b⟩ | ⟨rfl, a, b⟩ | ⟨rfl, hp⟩
  · simp only [gord, if_true] at *
    rw [if_neg (by decide), if_neg (by decide), if_neg (by omega), w64 (by omega) (by omega), Int.tmod_eq_emod_of_nonneg (by omega)]
  · simp only [gord, show ¬ (1 : Int) = 0 by decide, if_true, if_false] at *
    rw [if_neg (show ¬ p = 0 by omega)]
    rw [Int.tdiv_eq_ediv_of_nonneg x0, Int.tdiv_eq_ediv_of_nonneg y0, Int.tmod_eq_emod_of_nonneg x0, Int.tmod_eq_emod_of_nonneg y0]
    have m1 := Int.emod_nonneg (x + y % p) (show p ≠ 0 by omega)
    have m2 := Int.emod_lt_of_pos (x + y % p) (show 0 < p by omega)
    have m3 := Int.emod_nonneg (x - p - y % p + p) (show p ≠ 0 by omega)
    have m4 := Int.emod_lt_of_pos (x - p - y % p + p) (show 0 < p by omega)
    have j0 := Int.emod_nonneg y (show p ≠ 0 by omega)
    have j1 := Int.emod_lt_of_pos y (show 0 < p by omega)
    rcases div01 (by omega) x0 x1 with ⟨h1, e1, f1⟩ | ⟨h1, e1, f1⟩ <;> rcases div01 (by omega) y0 y1 with ⟨h2, e2, f2⟩ | ⟨h2, e2, f2⟩ <;> rw [e1, e2, f1]
    · rw [if_neg (by rw [wl0]; decide), if_pos h1]
      rw [wl0, wl00, show Int.tmod 0 2 = 0 by decide, Int.zero_mul, wl0, w64 (a := x + y % p) (by omega) (by omega), Int.tmod_eq_emod_of_nonneg (by omega), w64 (by omega) (by omega)]
      simp
    · rw [if_neg (by rw [wl0]; decide), if_pos h1]
      rw [wl0, wl1, wl01, show Int.tmod 1 2 = 1 by decide, w64 (a := 1 * p) (by omega) (by omega), w64 (a := x + y % p) (by omega) (by omega), Int.tmod_eq_emod_of_nonneg (by omega), w64 (by omega) (by omega)]
      simp
    · rw [if_pos wl1, if_neg (by omega)]
      rw [wl0, wl1, wl10, show Int.tmod 1 2 = 1 by decide, w64 (a := 1 * p) (by omega) (by omega), w64 (a := p - y % p) (by omega) (by omega), show x - p + (p - y % p) = x - p - y % p + p by omega, w64 (a := x - p - y % p + p) (by omega) (by omega), Int.tmod_eq_emod_of_nonneg (by omega), w64 (by omega) (by omega)]
      simp
    · rw [if_pos wl1, if_neg (by omega)]
      rw [wl1, wl2, show Int.tmod 2 2 = 0 by decide, Int.zero_mul, wl0, w64 (a := p - y % p) (by omega) (by omega), show x - p + (p - y % p) = x - p - y % p + p by omega, w64 (a := x - p - y % p + p) (by omega) (by omega), Int.tmod_eq_emod_of_nonneg (by omega), w64 (by omega) (by omega)]
      simp
  · simp only [gord, show ¬ (2 : Int) = 0 by decide, show ¬ (2 : Int) = 1 by decide, if_false, if_true] at *
    rw [if_neg (show ¬ p = 0 by omega)]
    rw [Int.tdiv_eq_ediv_of_nonneg x0, Int.tdiv_eq_ediv_of_nonneg y0, Int.tmod_eq_emod_of_nonneg x0, Int.tmod_eq_emod_of_nonneg y0]
    have a0 : 0 ≤ x / p ∧ x / p ≤ 5 := by rcases hp with rfl | rfl | rfl | rfl <;> omega
    have c0 : 0 ≤ y / p ∧ y / p ≤ 5 := by rcases hp with rfl | rfl | rfl | rfl <;> omega
    have b0 := Int.emod_nonneg x (show p ≠ 0 by omega)
    have b1 := Int.emod_lt_of_pos x (show 0 < p by omega)
    have d0 := Int.emod_nonneg y (show p ≠ 0 by omega)
    have d1 := Int.emod_lt_of_pos y (show 0 < p by omega)
    have p7 : p ≤ 7 ∧ 0 < p := by omega
    have ac0 : 0 ≤ (x / p + 1) * (y / p + 1) := Int.mul_nonneg (by omega) (by omega)
    have ac1 : (x / p + 1) * (y / p + 1) ≤ 6 * 6 := Int.mul_le_mul (by omega) (by omega) (by omega) (by omega)
    have ad0 : 0 ≤ (x / p + 1) * (y % p) := Int.mul_nonneg (by omega) (by omega)
    have ad1 : (x / p + 1) * (y % p) ≤ 6 * 7 := Int.mul_le_mul (by omega) (by omega) (by omega) (by omega)
    have m0 := Int.emod_nonneg ((x / p + 1) * (y / p + 1)) (show p ≠ 0 by omega)
    have m1 := Int.emod_lt_of_pos ((x / p + 1) * (y / p + 1)) (show 0 < p by omega)
    have n0 := Int.emod_nonneg ((x / p + 1) * (y % p) + x % p) (show p ≠ 0 by omega)
    have n1 := Int.emod_lt_of_pos ((x / p + 1) * (y % p) + x % p) (show 0 < p by omega)
    have q0 : ((x / p + 1) * (y / p + 1) % p - 1) * p ≤ 6 * 7 := by rcases hp with rfl | rfl | rfl | rfl <;> omega
    have q1 : -7 ≤ ((x / p + 1) * (y / p + 1) % p - 1) * p := by rcases hp with rfl | rfl | rfl | rfl <;> omega
    rw [w64 (a := x / p) (by omega) (by omega), w64 (a := y / p) (by omega) (by omega), w64 (a := x / p + 1) (by omega) (by omega), w64 (a := y / p + 1) (by omega) (by omega), w64 (a := (x / p + 1) * (y / p + 1)) (by omega) (by omega), w64 (a := (x / p + 1) * (y % p)) (by omega) (by omega), w64 (a := (x / p + 1) * (y % p) + x % p) (by omega) (by omega)]
    rw [Int.tmod_eq_emod_of_nonneg ac0, Int.tmod_eq_emod_of_nonneg (show 0 ≤ (x / p + 1) * (y % p) + x % p by omega)]
    rw [w64 (a := (x / p + 1) * (y / p + 1) % p - 1) (by omega) (by omega), w64 (a := ((x / p + 1) * (y / p + 1) % p - 1) * p) (by omega) (by omega), w64 (by omega) (by omega)]

theorem i_product {k p x y : Int} (h : gok k p) (x0 : 0 ≤ x) (x1 : x < gord k p) (y0 : 0 ≤ y) (y1 : y < gord k p) : impl_Group_product.f k p x y = some (gmul k p x y) := by
  rw [← s_times h x0 x1 y0 y1]
  unfold impl_Group_product.f spec_l05Times.f
  rcases h with ⟨rfl, a, b⟩ | ⟨rfl, a, b⟩ | ⟨rfl, hp⟩
  · rfl
  · simp only [gord, show ¬ (1 : Int) = 0 by decide, if_true, if_false] at *
    simp only [show ¬ p = 0 by omega, if_false]
    rw [Int.tdiv_eq_ediv_of_nonneg x0, Int.tdiv_eq_ediv_of_nonneg y0, Int.tmod_eq_emod_of_nonneg x0, Int.tmod_eq_emod_of_nonneg y0]
    have j0 := Int.emod_nonneg y (show p ≠ 0 by omega)
    have j1 := Int.emod_lt_of_pos y (show 0 < p by omega)
    rcases div01 (by omega) x0 x1 with ⟨h1, e1, f1⟩ | ⟨h1, e1, f1⟩ <;> rw [e1, f1]
    · rw [if_pos h1, if_neg (by rw [wl0]; decide)]
    · rw [if_neg (by omega), if_pos wl1]
      rw [w64 (a := p - y % p) (by omega) (by omega), w64 (a := x - p - y % p) (by omega) (by omega), show x - p + (p - y % p) = x - p - y % p + p by omega]
  · simp only [show ¬ (2 : Int) = 0 by decide, show ¬ (2 : Int) = 1 by decide, if_false, if_true]

/-- The code of a group and elements. -/
def gcode (k p : Int) (l : List Int) : Int := if gok k p then (if ∀ x ∈ l, 0 ≤ x ∧ x < gord k p then 0 else 2) else 1
theorem dropcons (l : List Int) (i : Int) (h0 : 0 ≤ i) (h1 : i < l.length) : l.drop i.toNat = rd l i :: l.drop (i + 1).toNat := by
  rw [List.drop_eq_getElem_cons (by omega : i.toNat < l.length), show (i + 1).toNat = i.toNat + 1 by omega]
  simp [rd, List.getD_eq_getElem?_getD, List.getElem?_eq_getElem (show i.toNat < l.length by omega)]

theorem s_elems_l0 {k p : Int} (h : gok k p) (l : List Int) (hl : l.length < 9223372036854775807) (d : Nat) : ∀ i : Int, 0 ≤ i → i ≤ l.length → l.length - i = d →
    Ev (fun K => spec_l05Elements.l0 K l i k p) (if ∀ x ∈ l.drop i.toNat, 0 ≤ x ∧ x < gord k p then 0 else 2) := by
  have ho := gord_pos h
  induction d with
  | zero =>
    intro i h0 h1 hd
    rw [List.drop_of_length_le (by omega)]
    refine ev_k ?_
    simp only [spec_l05Elements.l0]
    exact ev_neg (by omega) (ev_some (by simp))
  | succ d ih =>
    intro i h0 h1 hd
    rw [dropcons l i h0 (by omega)]
    have ih := ih (i + 1) (by omega) (by omega) (by omega)
    refine ev_k ?_
    simp only [spec_l05Elements.l0, s_order h, s_in, Option.bind_some]
    refine ev_pos (by omega) (ev_pos h0 ?_)
    rw [w64 (a := gord k p - 1) (by omega) (by omega), w64 (a := i + 1) (by omega) (by omega)]
    by_cases hc : 0 ≤ rd l i ∧ rd l i ≤ gord k p - 1
    · refine ev_pos (decide_eq_true hc) ?_
      have e : (∀ x ∈ rd l i :: l.drop (i + 1).toNat, 0 ≤ x ∧ x < gord k p) ↔ ∀ x ∈ l.drop (i + 1).toNat, 0 ≤ x ∧ x < gord k p := by
        rw [List.forall_mem_cons]
        exact ⟨fun z => z.2, fun z => ⟨by omega, z⟩⟩
      simp only [e]
      exact ih
    · refine ev_neg (by simpa using hc) (ev_some ?_)
      rw [if_neg]
      rw [List.forall_mem_cons]
      exact fun z => hc (by omega)
theorem s_elems (k p : Int) (l : List Int) (hl : l.length < 9223372036854775807) : Ev (fun K => spec_l05Elements.f K k p l) (gcode k p l) := by
  unfold spec_l05Elements.f gcode
  rw [s_group]
  simp only [Option.bind_some]
  by_cases h : gok k p
  · rw [if_pos h]
    exact ev_pos (decide_eq_true h) (by simpa using s_elems_l0 h l hl l.length 0 (by omega) (by omega) (by omega))
  · rw [if_neg h]
    exact ev_neg (by simpa using h) (ev_some rfl)

theorem i_code_l0 {k p : Int} (h : gok k p) (l : List Int) (hl : l.length < 9223372036854775807) (d : Nat) : ∀ i : Int, 0 ≤ i → i ≤ l.length → l.length - i = d →
    Ev (fun K => impl_groupCode.l0 K l l.length i k p) (if ∀ x ∈ l.drop i.toNat, 0 ≤ x ∧ x < gord k p then 0 else 2) := by
  induction d with
  | zero =>
    intro i h0 h1 hd
    rw [List.drop_of_length_le (by omega)]
    refine ev_k ?_
    simp only [impl_groupCode.l0]
    exact ev_neg (by omega) (ev_some (by simp))
  | succ d ih =>
    intro i h0 h1 hd
    rw [dropcons l i h0 (by omega)]
    have ih := ih (i + 1) (by omega) (by omega) (by omega)
    refine ev_k ?_
    simp only [impl_groupCode.l0, i_order h, Option.bind_some]
    refine ev_pos (by omega) (ev_pos h0 (ev_pos (by omega) ?_))
    rw [w64 (a := i + 1) (by omega) (by omega)]
    by_cases hc : rd l i < 0
    · refine ev_pos hc (ev_some ?_)
      rw [if_neg]
      rw [List.forall_mem_cons]
      exact fun z => by omega
    · refine ev_neg hc ?_
      by_cases hd : rd l i ≥ gord k p
      · refine ev_pos hd (ev_some ?_)
        rw [if_neg]
        rw [List.forall_mem_cons]
        exact fun z => by omega
      · refine ev_neg hd ?_
        have e : (∀ x ∈ rd l i :: l.drop (i + 1).toNat, 0 ≤ x ∧ x < gord k p) ↔ ∀ x ∈ l.drop (i + 1).toNat, 0 ≤ x ∧ x < gord k p := by
          rw [List.forall_mem_cons]
          exact ⟨fun z => z.2, fun z => ⟨by omega, z⟩⟩
        simp only [e]
        exact ih
theorem i_code (k p : Int) (l : List Int) (hl : l.length < 9223372036854775807) : Ev (fun K => impl_groupCode.f K k p l) (gcode k p l) := by
  unfold impl_groupCode.f gcode
  rw [i_group]
  simp only [Option.bind_some]
  by_cases h : gok k p
  · rw [if_pos h]
    exact ev_pos (decide_eq_true h) (by simpa using i_code_l0 h l hl l.length 0 (by omega) (by omega) (by omega))
  · rw [if_neg h]
    exact ev_neg (by simpa using h) (ev_some rfl)
theorem gcode_zero {k p : Int} {l : List Int} (h : gcode k p l = 0) : gok k p ∧ ∀ x ∈ l, 0 ≤ x ∧ x < gord k p := by
  unfold gcode at h
  split at h
  · rename_i hg
    split at h
    · rename_i hl
      exact ⟨hg, hl⟩
    · omega
  · omega
end Go.Proofs.Ytjebhipbdledfaa.Q
