/- The pure law and what it leans on, in one text (wip/bin/bundle). -/
import Derived.Test.YtmofdldplbplbaaP2
import Derived.Test.YtmofdldplbplbaaP3
import Derived.Test.YtmofdldplbplbaaP4
import Derived.Test.YtmofdldplbplbaaP6
import Derived.Test.YtmofdldplbplbaaP7
import Derived.Test.YtmofdldplbplbaaP8
import Derived.Test.YtmofdldplbplbaaP5
import Derived.Test.YtmofdldplbplbaaP1
import Derived.Test.YtmofdldplbplbaaWA
import Derived.Test.YtmofdldplbplbaaWBMore
import Derived.Laws.BitsLemmas
namespace Go.Proofs.Ytmofdldplbplbaa.Q
open Go Go.RowKit Go.Proofs.YtmofdldplbplbaaW.PrintWords Go.Proofs.YtmofdldplbplbaaW.PrintMore
theorem ev_k {α : Type} {g : Nat → Option α} {r : α} (h : Ev (fun k => g (k + 1)) r) : Ev g r := Ev.step (fun _ => rfl) h
theorem ev_some {α : Type} {r s : α} (h : r = s) : Ev (fun _ => some r) s := h ▸ Ev.now r
theorem ev_pos {α : Type} {c : Prop} [Decidable c] {f g : Nat → Option α} {r : α} (h : c) (H : Ev f r) : Ev (fun k => if c then f k else g k) r :=
  Ev.congr (fun _ => if_pos h) H
theorem ev_neg {α : Type} {c : Prop} [Decidable c] {f g : Nat → Option α} {r : α} (h : ¬ c) (H : Ev g r) : Ev (fun k => if c then f k else g k) r :=
  Ev.congr (fun _ => if_neg h) H
theorem ev_of {α : Type} {o : Option α} {r : α} (h : o = some r) : Ev (fun _ => o) r := ⟨0, fun _ _ => h⟩
theorem ev_bind0 {α β : Type} {o : Option α} {f : Nat → α → Option β} {a : α} {r : β} (h : o = some a) (H : Ev (fun n => f n a) r) : Ev (fun n => o.bind (f n)) r :=
  Ev.bind (ev_of h) H
theorem w64 {a : Int} (h0 : -9223372036854775808 ≤ a) (h1 : a < 9223372036854775808) : wrap64 a = a := by
  unfold wrap64
  omega
end Go.Proofs.Ytmofdldplbplbaa.Q
namespace Go.Proofs.Ytmofdldplbplbaa.Q
open Go Go.RowKit
def gok (k p : Int) : Prop := (k = 0 ∧ 1 ≤ p ∧ p ≤ 62) ∨ (k = 1 ∧ 1 ≤ p ∧ p ≤ 31) ∨ (k = 2 ∧ (p = 2 ∨ p = 3 ∨ p = 5 ∨ p = 7))
def gord (k p : Int) : Int := if k = 0 then p else if k = 1 then 2 * p else p * (p - 1)
def gmul (k p x y : Int) : Int :=
  if k = 0 then (x + y) % p
  else if k = 1 then (if x < p then (y / p) % 2 * p + (x + y % p) % p else (1 + y / p) % 2 * p + (x - p - y % p + p) % p)
  else ((x / p + 1) * (y / p + 1) % p - 1) * p + ((x / p + 1) * (y % p) + x % p) % p
theorem div01 {p x : Int} (hp : 0 < p) (h0 : 0 ≤ x) (h1 : x < 2 * p) : (x < p ∧ x / p = 0 ∧ x % p = x) ∨ (p ≤ x ∧ x / p = 1 ∧ x % p = x - p) := by
  by_cases h : x < p
  · exact .inl ⟨h, Int.ediv_eq_zero_of_lt h0 h, Int.emod_eq_of_lt h0 h⟩
  · obtain ⟨a, b⟩ := (Int.ediv_emod_unique (a := x) (b := p) (q := 1) (r := x - p) hp).2 ⟨by omega, by omega, by omega⟩
    exact .inr ⟨by omega, a, b⟩
theorem gord_pos {k p : Int} (h : gok k p) : 0 < gord k p ∧ gord k p ≤ 62 := by
  unfold gord
  rcases h with ⟨rfl, a, b⟩ | ⟨rfl, a, b⟩ | ⟨rfl, rfl | rfl | rfl | rfl⟩
  · simp; omega
  · simp; omega
  all_goals simp
theorem gmul_inv {k p x : Int} (h : gok k p) (x0 : 0 ≤ x) (x1 : x < gord k p) : ∃ y, 0 ≤ y ∧ y < gord k p ∧ gmul k p x y = 0 := by
  rcases h with ⟨rfl, a, b⟩ | ⟨rfl, a, b⟩ | ⟨rfl, hp⟩
  · simp only [gmul, gord, if_true] at *
    by_cases e : x = 0
    · exact ⟨0, by omega, by omega, by subst e; simp⟩
    · exact ⟨p - x, by omega, by omega, by rw [show x + (p - x) = p by omega]; simp⟩
  · simp only [gmul, gord, show ¬ (1 : Int) = 0 by decide, if_true, if_false] at *
    by_cases hx : x < p
    · simp only [hx, if_true]
      by_cases e : x = 0
      · exact ⟨0, by omega, by omega, by subst e; simp⟩
      · refine ⟨p - x, by omega, by omega, ?_⟩
        rcases div01 (p := p) (x := p - x) (by omega) (by omega) (by omega) with ⟨_, e1, e2⟩ | ⟨_, e1, e2⟩
        · rw [e1, e2, show x + (p - x) = p by omega]; simp
        · omega
    · refine ⟨x, x0, x1, ?_⟩
      simp only [hx, if_false]
      rcases div01 (p := p) (x := x) (by omega) (by omega) (by omega) with ⟨_, e1, e2⟩ | ⟨_, e1, e2⟩
      · omega
      · rw [e1, e2, show x - p - (x - p) + p = p by omega]; simp
  · have key : ∀ p ∈ [2, 3, 5, 7], ∀ x < p * (p - 1), ∃ y, y < p * (p - 1) ∧ gmul 2 (p : Nat) (x : Nat) (y : Nat) = 0 := by decide +kernel
    have hq : ∃ q : Nat, p = q ∧ q ∈ [2, 3, 5, 7] := by rcases hp with rfl | rfl | rfl | rfl <;> exact ⟨_, rfl, by decide⟩
    obtain ⟨q, rfl, hq⟩ := hq
    have g : gord 2 (q : Int) = ((q * (q - 1) : Nat) : Int) := by
      simp at hq
      rcases hq with rfl | rfl | rfl | rfl <;> simp [gord]
    rw [g] at x1 ⊢
    obtain ⟨y, hy, e⟩ := key q hq x.toNat (by omega)
    exact ⟨y, by omega, by omega, by rw [← e, Int.toNat_of_nonneg x0]⟩
end Go.Proofs.Ytmofdldplbplbaa.Q
namespace Go.Proofs.Ytmofdldplbplbaa.Q
open Go Go.RowKit Go.Proofs.Ytmofdldplbplbaa.P
theorem s_in (a b c : Int) : spec_l01In.f a b c = some (decide (b ≤ a ∧ a ≤ c)) := by
  unfold spec_l01In.f
  split
  · exact congrArg some (decide_eq_decide.2 (by omega))
  · exact congrArg some (decide_eq_false (by omega)).symm
end Go.Proofs.Ytmofdldplbplbaa.Q
namespace Go.Proofs.Ytmofdldplbplbaa.Q
open Go Go.RowKit Go.Proofs.Ytmofdldplbplbaa.P Go.Proofs.YtmofdldplbplbaaW.PrintWords Go.Proofs.YtmofdldplbplbaaW.PrintMore
set_option linter.unusedSimpArgs false
instance (k p : Int) : Decidable (gok k p) := by unfold gok; infer_instance
theorem s_prime (q : Int) : spec_l05Prime.f q = some (decide (q = 2 ∨ q = 3 ∨ q = 5 ∨ q = 7)) := by
  unfold spec_l05Prime.f
  repeat' split
  all_goals simp [*]
  all_goals rfl
theorem i_prime (q : Int) : impl_isPrime.f q = some (decide (q = 2 ∨ q = 3 ∨ q = 5 ∨ q = 7)) := by
  unfold impl_isPrime.f
  repeat' split
  all_goals simp [*]
  all_goals rfl
theorem s_group (k p : Int) : spec_l05Is.f k p = some (decide (gok k p)) := by
  unfold spec_l05Is.f
  simp only [s_in, s_prime, Option.bind_some]
  repeat' split
  all_goals first | exact congrArg some (decide_eq_decide.2 (by unfold gok; omega)) | exact congrArg some (decide_eq_false (by unfold gok; omega)).symm
theorem i_group (k p : Int) : impl_IsGroup.f k p = some (decide (gok k p)) := by
  unfold impl_IsGroup.f
  simp only [i_prime, Option.bind_some]
  repeat' split
  all_goals first | exact congrArg some (decide_eq_decide.2 (by unfold gok; omega)) | exact congrArg some (decide_eq_false (by unfold gok; omega)).symm
theorem s_order {k p : Int} (h : gok k p) : spec_l05Order.f k p = some (gord k p) := by
  unfold spec_l05Order.f gord
  rcases h with ⟨rfl, a, b⟩ | ⟨rfl, a, b⟩ | ⟨rfl, rfl | rfl | rfl | rfl⟩
  · rfl
  · simp only [show ¬ (1 : Int) = 0 by decide, if_true, if_false]
    rw [w64 (by omega) (by omega)]
  all_goals (unfold wrap64; decide)
theorem i_order {k p : Int} (h : gok k p) : impl_Group_order.f k p = some (gord k p) := by
  unfold impl_Group_order.f gord
  rcases h with ⟨rfl, a, b⟩ | ⟨rfl, a, b⟩ | ⟨rfl, rfl | rfl | rfl | rfl⟩
  · rfl
  · simp only [show ¬ (1 : Int) = 0 by decide, if_true, if_false]
    rw [w64 (by omega) (by omega)]
  all_goals (unfold wrap64; decide)
theorem wl0 : wrap64 0 = 0 := w64 (by omega) (by omega)
theorem wl1 : wrap64 1 = 1 := w64 (by omega) (by omega)
theorem wl2 : wrap64 (1 + 1) = 2 := w64 (by omega) (by omega)
theorem wl01 : wrap64 (0 + 1) = 1 := w64 (by omega) (by omega)
theorem wl10 : wrap64 (1 + 0) = 1 := w64 (by omega) (by omega)
theorem wl00 : wrap64 (0 + 0) = 0 := w64 (by omega) (by omega)
theorem s_times {k p x y : Int} (h : gok k p) (x0 : 0 ≤ x) (x1 : x < gord k p) (y0 : 0 ≤ y) (y1 : y < gord k p) : spec_l05Times.f k p x y = some (gmul k p x y) := by
  unfold spec_l05Times.f gmul
  rcases h with ⟨rfl, a, b⟩ | ⟨rfl, a, b⟩ | ⟨rfl, hp⟩
  · simp only [gord, if_true] at *
    rw [if_neg (by decide), if_neg (by decide), if_neg (by omega), w64 (by omega) (by omega), Int.tmod_eq_emod_of_nonneg (by omega)]
  · simp only [gord, show ¬ (1 : Int) = 0 by decide, if_true, if_false] at *
    rw [if_neg (show ¬ p = 0 by omega)]
    rw [Int.tdiv_eq_ediv_of_nonneg x0, Int.tdiv_eq_ediv_of_nonneg y0, Int.tmod_eq_emod_of_nonneg x0, Int.tmod_eq_emod_of_nonneg y0]
    have m1 := Int.emod_nonneg (x + y % p) (show p ≠ 0 by omega)
    have m2 := Int.emod_lt_of_pos (x + y % p) (show 0 < p by omega)
    have m3 := Int.emod_nonneg (x - p - y % p + p) (show p ≠ 0 by omega)
    have m4 := Int.emod_lt_of_pos (x - p - y % p + p) (show 0 < p by omega)
    have j0 := Int.emod_nonneg y (show p ≠ 0 by omega)
    have j1 := Int.emod_lt_of_pos y (show 0 < p by omega)
    rcases div01 (by omega) x0 x1 with ⟨h1, e1, f1⟩ | ⟨h1, e1, f1⟩ <;> rcases div01 (by omega) y0 y1 with ⟨h2, e2, f2⟩ | ⟨h2, e2, f2⟩ <;> rw [e1, e2, f1]
    · rw [if_neg (by rw [wl0]; decide), if_pos h1]
      rw [wl0, wl00, show Int.tmod 0 2 = 0 by decide, Int.zero_mul, wl0, w64 (a := x + y % p) (by omega) (by omega), Int.tmod_eq_emod_of_nonneg (by omega), w64 (by omega) (by omega)]
      simp
    · rw [if_neg (by rw [wl0]; decide), if_pos h1]
      rw [wl0, wl1, wl01, show Int.tmod 1 2 = 1 by decide, w64 (a := 1 * p) (by omega) (by omega), w64 (a := x + y % p) (by omega) (by omega), Int.tmod_eq_emod_of_nonneg (by omega), w64 (by omega) (by omega)]
      simp
    · rw [if_pos wl1, if_neg (by omega)]
      rw [wl0, wl1, wl10, show Int.tmod 1 2 = 1 by decide, w64 (a := 1 * p) (by omega) (by omega), w64 (a := p - y % p) (by omega) (by omega), show x - p + (p - y % p) = x - p - y % p + p by omega, w64 (a := x - p - y % p + p) (by omega) (by omega), Int.tmod_eq_emod_of_nonneg (by omega), w64 (by omega) (by omega)]
      simp
    · rw [if_pos wl1, if_neg (by omega)]
      rw [wl1, wl2, show Int.tmod 2 2 = 0 by decide, Int.zero_mul, wl0, w64 (a := p - y % p) (by omega) (by omega), show x - p + (p - y % p) = x - p - y % p + p by omega, w64 (a := x - p - y % p + p) (by omega) (by omega), Int.tmod_eq_emod_of_nonneg (by omega), w64 (by omega) (by omega)]
      simp
  · simp only [gord, show ¬ (2 : Int) = 0 by decide, show ¬ (2 : Int) = 1 by decide, if_false, if_true] at *
    rw [if_neg (show ¬ p = 0 by omega)]
    rw [Int.tdiv_eq_ediv_of_nonneg x0, Int.tdiv_eq_ediv_of_nonneg y0, Int.tmod_eq_emod_of_nonneg x0, Int.tmod_eq_emod_of_nonneg y0]
    have a0 : 0 ≤ x / p ∧ x / p ≤ 5 := by rcases hp with rfl | rfl | rfl | rfl <;> omega
    have c0 : 0 ≤ y / p ∧ y / p ≤ 5 := by rcases hp with rfl | rfl | rfl | rfl <;> omega
    have b0 := Int.emod_nonneg x (show p ≠ 0 by omega)
    have b1 := Int.emod_lt_of_pos x (show 0 < p by omega)
    have d0 := Int.emod_nonneg y (show p ≠ 0 by omega)
    have d1 := Int.emod_lt_of_pos y (show 0 < p by omega)
    have p7 : p ≤ 7 ∧ 0 < p := by omega
    have ac0 : 0 ≤ (x / p + 1) * (y / p + 1) := Int.mul_nonneg (by omega) (by omega)
    have ac1 : (x / p + 1) * (y / p + 1) ≤ 6 * 6 := Int.mul_le_mul (by omega) (by omega) (by omega) (by omega)
    have ad0 : 0 ≤ (x / p + 1) * (y % p) := Int.mul_nonneg (by omega) (by omega)
    have ad1 : (x / p + 1) * (y % p) ≤ 6 * 7 := Int.mul_le_mul (by omega) (by omega) (by omega) (by omega)
    have m0 := Int.emod_nonneg ((x / p + 1) * (y / p + 1)) (show p ≠ 0 by omega)
    have m1 := Int.emod_lt_of_pos ((x / p + 1) * (y / p + 1)) (show 0 < p by omega)
    have n0 := Int.emod_nonneg ((x / p + 1) * (y % p) + x % p) (show p ≠ 0 by omega)
    have n1 := Int.emod_lt_of_pos ((x / p + 1) * (y % p) + x % p) (show 0 < p by omega)
    have q0 : ((x / p + 1) * (y / p + 1) % p - 1) * p ≤ 6 * 7 := by rcases hp with rfl | rfl | rfl | rfl <;> omega
    have q1 : -7 ≤ ((x / p + 1) * (y / p + 1) % p - 1) * p := by rcases hp with rfl | rfl | rfl | rfl <;> omega
    rw [w64 (a := x / p) (by omega) (by omega), w64 (a := y / p) (by omega) (by omega), w64 (a := x / p + 1) (by omega) (by omega), w64 (a := y / p + 1) (by omega) (by omega), w64 (a := (x / p + 1) * (y / p + 1)) (by omega) (by omega), w64 (a := (x / p + 1) * (y % p)) (by omega) (by omega), w64 (a := (x / p + 1) * (y % p) + x % p) (by omega) (by omega)]
    rw [Int.tmod_eq_emod_of_nonneg ac0, Int.tmod_eq_emod_of_nonneg (show 0 ≤ (x / p + 1) * (y % p) + x % p by omega)]
    rw [w64 (a := (x / p + 1) * (y / p + 1) % p - 1) (by omega) (by omega), w64 (a := ((x / p + 1) * (y / p + 1) % p - 1) * p) (by omega) (by omega), w64 (by omega) (by omega)]
theorem i_product {k p x y : Int} (h : gok k p) (x0 : 0 ≤ x) (x1 : x < gord k p) (y0 : 0 ≤ y) (y1 : y < gord k p) : impl_Group_product.f k p x y = some (gmul k p x y) := by
  rw [← s_times h x0 x1 y0 y1]
  unfold impl_Group_product.f spec_l05Times.f
  rcases h with ⟨rfl, a, b⟩ | ⟨rfl, a, b⟩ | ⟨rfl, hp⟩
  · rfl
  · simp only [gord, show ¬ (1 : Int) = 0 by decide, if_true, if_false] at *
    simp only [show ¬ p = 0 by omega, if_false]
    rw [Int.tdiv_eq_ediv_of_nonneg x0, Int.tdiv_eq_ediv_of_nonneg y0, Int.tmod_eq_emod_of_nonneg x0, Int.tmod_eq_emod_of_nonneg y0]
    have j0 := Int.emod_nonneg y (show p ≠ 0 by omega)
    have j1 := Int.emod_lt_of_pos y (show 0 < p by omega)
    rcases div01 (by omega) x0 x1 with ⟨h1, e1, f1⟩ | ⟨h1, e1, f1⟩ <;> rw [e1, f1]
    · rw [if_pos h1, if_neg (by rw [wl0]; decide)]
    · rw [if_neg (by omega), if_pos wl1]
      rw [w64 (a := p - y % p) (by omega) (by omega), w64 (a := x - p - y % p) (by omega) (by omega), show x - p + (p - y % p) = x - p - y % p + p by omega]
  · simp only [show ¬ (2 : Int) = 0 by decide, show ¬ (2 : Int) = 1 by decide, if_false, if_true]
def gcode (k p : Int) (l : List Int) : Int := if gok k p then (if ∀ x ∈ l, 0 ≤ x ∧ x < gord k p then 0 else 2) else 1
theorem dropcons (l : List Int) (i : Int) (h0 : 0 ≤ i) (h1 : i < l.length) : l.drop i.toNat = rd l i :: l.drop (i + 1).toNat := by
  rw [List.drop_eq_getElem_cons (by omega : i.toNat < l.length), show (i + 1).toNat = i.toNat + 1 by omega]
  simp [rd, List.getD_eq_getElem?_getD, List.getElem?_eq_getElem (show i.toNat < l.length by omega)]
theorem s_elems_l0 {k p : Int} (h : gok k p) (l : List Int) (hl : l.length < 9223372036854775807) (d : Nat) : ∀ i : Int, 0 ≤ i → i ≤ l.length → l.length - i = d →
    Ev (fun K => spec_l05Elements.l0 K l i k p) (if ∀ x ∈ l.drop i.toNat, 0 ≤ x ∧ x < gord k p then 0 else 2) := by
  have ho := gord_pos h
  induction d with
  | zero =>
    intro i h0 h1 hd
    rw [List.drop_of_length_le (by omega)]
    refine ev_k ?_
    simp only [spec_l05Elements.l0]
    exact ev_neg (by omega) (ev_some (by simp))
  | succ d ih =>
    intro i h0 h1 hd
    rw [dropcons l i h0 (by omega)]
    have ih := ih (i + 1) (by omega) (by omega) (by omega)
    refine ev_k ?_
    simp only [spec_l05Elements.l0, s_order h, s_in, Option.bind_some]
    refine ev_pos (by omega) (ev_pos h0 ?_)
    rw [w64 (a := gord k p - 1) (by omega) (by omega), w64 (a := i + 1) (by omega) (by omega)]
    by_cases hc : 0 ≤ rd l i ∧ rd l i ≤ gord k p - 1
    · refine ev_pos (decide_eq_true hc) ?_
      have e : (∀ x ∈ rd l i :: l.drop (i + 1).toNat, 0 ≤ x ∧ x < gord k p) ↔ ∀ x ∈ l.drop (i + 1).toNat, 0 ≤ x ∧ x < gord k p := by
        rw [List.forall_mem_cons]
        exact ⟨fun z => z.2, fun z => ⟨by omega, z⟩⟩
      simp only [e]
      exact ih
    · refine ev_neg (by simpa using hc) (ev_some ?_)
      rw [if_neg]
      rw [List.forall_mem_cons]
      exact fun z => hc (by omega)
theorem s_elems (k p : Int) (l : List Int) (hl : l.length < 9223372036854775807) : Ev (fun K => spec_l05Elements.f K k p l) (gcode k p l) := by
  unfold spec_l05Elements.f gcode
  rw [s_group]
  simp only [Option.bind_some]
  by_cases h : gok k p
  · rw [if_pos h]
    exact ev_pos (decide_eq_true h) (by simpa using s_elems_l0 h l hl l.length 0 (by omega) (by omega) (by omega))
  · rw [if_neg h]
    exact ev_neg (by simpa using h) (ev_some rfl)
theorem i_code_l0 {k p : Int} (h : gok k p) (l : List Int) (hl : l.length < 9223372036854775807) (d : Nat) : ∀ i : Int, 0 ≤ i → i ≤ l.length → l.length - i = d →
    Ev (fun K => impl_groupCode.l0 K l l.length i k p) (if ∀ x ∈ l.drop i.toNat, 0 ≤ x ∧ x < gord k p then 0 else 2) := by
  induction d with
  | zero =>
    intro i h0 h1 hd
    rw [List.drop_of_length_le (by omega)]
    refine ev_k ?_
    simp only [impl_groupCode.l0]
    exact ev_neg (by omega) (ev_some (by simp))
  | succ d ih =>
    intro i h0 h1 hd
    rw [dropcons l i h0 (by omega)]
    have ih := ih (i + 1) (by omega) (by omega) (by omega)
    refine ev_k ?_
    simp only [impl_groupCode.l0, i_order h, Option.bind_some]
    refine ev_pos (by omega) (ev_pos h0 (ev_pos (by omega) ?_))
    rw [w64 (a := i + 1) (by omega) (by omega)]
    by_cases hc : rd l i < 0
    · refine ev_pos hc (ev_some ?_)
      rw [if_neg]
      rw [List.forall_mem_cons]
      exact fun z => by omega
    · refine ev_neg hc ?_
      by_cases hd : rd l i ≥ gord k p
      · refine ev_pos hd (ev_some ?_)
        rw [if_neg]
        rw [List.forall_mem_cons]
        exact fun z => by omega
      · refine ev_neg hd ?_
        have e : (∀ x ∈ rd l i :: l.drop (i + 1).toNat, 0 ≤ x ∧ x < gord k p) ↔ ∀ x ∈ l.drop (i + 1).toNat, 0 ≤ x ∧ x < gord k p := by
          rw [List.forall_mem_cons]
          exact ⟨fun z => z.2, fun z => ⟨by omega, z⟩⟩
        simp only [e]
        exact ih
theorem i_code (k p : Int) (l : List Int) (hl : l.length < 9223372036854775807) : Ev (fun K => impl_groupCode.f K k p l) (gcode k p l) := by
  unfold impl_groupCode.f gcode
  rw [i_group]
  simp only [Option.bind_some]
  by_cases h : gok k p
  · rw [if_pos h]
    exact ev_pos (decide_eq_true h) (by simpa using i_code_l0 h l hl l.length 0 (by omega) (by omega) (by omega))
  · rw [if_neg h]
    exact ev_neg (by simpa using h) (ev_some rfl)
theorem gcode_zero {k p : Int} {l : List Int} (h : gcode k p l = 0) : gok k p ∧ ∀ x ∈ l, 0 ≤ x ∧ x < gord k p := by
  unfold gcode at h
  split at h
  · rename_i hg
    split at h
    · rename_i hl
      exact ⟨hg, hl⟩
    · omega
  · omega
end Go.Proofs.Ytmofdldplbplbaa.Q
namespace Go.Proofs.Ytmofdldplbplbaa.Q
open Go Go.RowKit Go.Proofs.Ytmofdldplbplbaa.P Go.Proofs.YtmofdldplbplbaaW.PrintWords Go.Proofs.YtmofdldplbplbaaW.PrintMore
theorem inv_from {k p x : Int} (hg : gok k p) (x0 : 0 ≤ x) (x1 : x < gord k p) (z : Int) (z1 : z < gord k p) (hz : gmul k p x z = 0) (d : Nat) : ∀ y : Int, 0 ≤ y → y ≤ z → z - y = d →
    ∃ r, (0 ≤ r ∧ r < gord k p) ∧ gmul k p x r = 0 ∧ (∀ q, y ≤ q → q < r → gmul k p x q ≠ 0) ∧ Ev (fun n => spec_l05Inverse.l0 n x y k p) r ∧ Ev (fun n => impl_Group_inverse.l0 n x y k p) r := by
  have ho := gord_pos hg
  induction d with
  | zero =>
    intro y y0 y1 hd
    obtain rfl : y = z := by omega
    refine ⟨y, ⟨y0, z1⟩, hz, fun q _ _ => by omega, ?_, ?_⟩
    · refine ev_k ?_
      simp only [spec_l05Inverse.l0, s_times hg x0 x1 y0 z1, Option.bind_some]
      exact ev_pos hz (Ev.now _)
    · refine ev_k ?_
      simp only [impl_Group_inverse.l0, i_product hg x0 x1 y0 z1, Option.bind_some]
      exact ev_pos hz (Ev.now _)
  | succ d ih =>
    intro y y0 y1 hd
    by_cases hy : gmul k p x y = 0
    · refine ⟨y, ⟨y0, by omega⟩, hy, fun q _ _ => by omega, ?_, ?_⟩
      · refine ev_k ?_
        simp only [spec_l05Inverse.l0, s_times hg x0 x1 y0 (show y < gord k p by omega), Option.bind_some]
        exact ev_pos hy (Ev.now _)
      · refine ev_k ?_
        simp only [impl_Group_inverse.l0, i_product hg x0 x1 y0 (show y < gord k p by omega), Option.bind_some]
        exact ev_pos hy (Ev.now _)
    · obtain ⟨r, r01, rz, rm, hs, hi⟩ := ih (y + 1) (by omega) (by omega) (by omega)
      refine ⟨r, r01, rz, fun q q0 q1 => if e : q = y then by rw [e]; exact hy else rm q (by omega) q1, ?_, ?_⟩
      · refine ev_k ?_
        simp only [spec_l05Inverse.l0, s_times hg x0 x1 y0 (show y < gord k p by omega), Option.bind_some]
        refine ev_neg hy ?_
        rw [w64 (a := y + 1) (by omega) (by omega)]
        exact hs
      · refine ev_k ?_
        simp only [impl_Group_inverse.l0, i_product hg x0 x1 y0 (show y < gord k p by omega), Option.bind_some]
        refine ev_neg hy ?_
        rw [w64 (a := y + 1) (by omega) (by omega)]
        exact hi
theorem inverses {k p x : Int} (hg : gok k p) (x0 : 0 ≤ x) (x1 : x < gord k p) :
    ∃ r, (0 ≤ r ∧ r < gord k p) ∧ gmul k p x r = 0 ∧ (∀ q, 0 ≤ q → q < r → gmul k p x q ≠ 0) ∧ Ev (fun n => spec_l05Inverse.f n k p x) r ∧ Ev (fun n => impl_Group_inverse.f n k p x) r := by
  obtain ⟨z, z0, z1, hz⟩ := gmul_inv hg x0 x1
  unfold spec_l05Inverse.f impl_Group_inverse.f
  exact inv_from hg x0 x1 z z1 hz z.toNat 0 (by omega) z0 (by omega)
end Go.Proofs.Ytmofdldplbplbaa.Q
namespace Go.Proofs.Ytmofdldplbplbaa.Q
open Go Go.RowKit Go.Proofs.YtmofdldplbplbaaW.PrintWords Go.Proofs.YtmofdldplbplbaaW.PrintLast Go.Proofs.YtmofdldplbplbaaW.PrintMore
def tb (x i : Int) : Bool := decide (x / 2 ^ i.toNat % 2 = 1)
end Go.Proofs.Ytmofdldplbplbaa.Q
namespace Go.Proofs.Ytmofdldplbplbaa.Q
open Go Go.RowKit Go.Proofs.YtmofdldplbplbaaW.PrintWords
end Go.Proofs.Ytmofdldplbplbaa.Q
namespace Go.Proofs.Ytmofdldplbplbaa.Q
open Go Go.RowKit Go.Proofs.YtmofdldplbplbaaW.PrintWords Go.Proofs.YtmofdldplbplbaaW.PrintMore
def Mx (n : Int) (l : List Int) (P : Int → Int → Prop) : Prop := (l.length : Int) = n ∧ ∀ v, 0 ≤ v → v < n → (0 ≤ rd l v ∧ rd l v < 2 ^ n.toNat) ∧ ∀ w, 0 ≤ w → w < n → (tb (rd l v) w = true ↔ P v w)
theorem Mx.imp {n : Int} {l : List Int} {P Q : Int → Int → Prop} (h : Mx n l P) (e : ∀ v w, 0 ≤ v → v < n → 0 ≤ w → w < n → (P v w ↔ Q v w)) : Mx n l Q :=
  ⟨h.1, fun v v0 v1 => ⟨(h.2 v v0 v1).1, fun w w0 w1 => ((h.2 v v0 v1).2 w w0 w1).trans (e v w v0 v1 w0 w1)⟩⟩
theorem Mx.zero (n : Int) (n0 : 0 ≤ n) : Mx n (List.replicate n.toNat 0) (fun _ _ => False) := by
  refine ⟨by simp; omega, fun v v0 v1 => ?_⟩
  have e : rd (List.replicate n.toNat 0) v = 0 := by
    have : v.toNat < n.toNat := by omega
    simp [rd, List.getD_eq_getElem?_getD, this]
  rw [e]
  have p : (0 : Int) < 2 ^ n.toNat := Int.pow_pos (by decide)
  refine ⟨⟨by omega, p⟩, fun w w0 w1 => ?_⟩
  simp [tb]
end Go.Proofs.Ytmofdldplbplbaa.Q
namespace Go.Proofs.Ytmofdldplbplbaa.Q
open Go Go.RowKit Go.Proofs.Ytmofdldplbplbaa.P Go.Proofs.YtmofdldplbplbaaW.PrintWords Go.Proofs.YtmofdldplbplbaaW.PrintMore
theorem mem_rd' {q : List Int} {u : Int} (h : u ∈ q) : ∃ i : Int, (0 ≤ i ∧ i < q.length) ∧ rd q i = u := by
  obtain ⟨i, hi, rfl⟩ := List.getElem_of_mem h
  exact ⟨i, by omega, by simp [rd, List.getD_eq_getElem?_getD, List.getElem?_eq_getElem hi]⟩
end Go.Proofs.Ytmofdldplbplbaa.Q
namespace Go.Proofs.Ytmofdldplbplbaa.Q
open Go Go.RowKit Go.Proofs.Ytmofdldplbplbaa.P Go.Proofs.YtmofdldplbplbaaW.PrintWords Go.Proofs.YtmofdldplbplbaaW.PrintMore
theorem asc_ext : ∀ (a b : List Int), a.Pairwise (· < ·) → b.Pairwise (· < ·) → (∀ x, x ∈ a ↔ x ∈ b) → a = b := by
  intro a
  induction a with
  | nil =>
    intro b _ _ h
    cases b with
    | nil => rfl
    | cons y b => exact absurd ((h y).2 (by simp)) (by simp)
  | cons x a ih =>
    intro b ha hb h
    cases b with
    | nil => exact absurd ((h x).1 (by simp)) (by simp)
    | cons y b =>
      rw [List.pairwise_cons] at ha hb
      have e : x = y := by
        rcases List.mem_cons.1 ((h x).1 (by simp)) with z | z
        · exact z
        · rcases List.mem_cons.1 ((h y).2 (by simp)) with w | w
          · exact w.symm
          · have := hb.1 x z
            have := ha.1 y w
            omega
      subst e
      rw [ih b ha.2 hb.2 fun z => ?_]
      constructor
      · intro hz
        rcases List.mem_cons.1 ((h z).1 (List.mem_cons_of_mem _ hz)) with w | w
        · have := ha.1 z hz
          omega
        · exact w
      · intro hz
        rcases List.mem_cons.1 ((h z).2 (List.mem_cons_of_mem _ hz)) with w | w
        · have := hb.1 z hz
          omega
        · exact w
def picked (g : List Bool) : Nat → Nat → List Int
  | 0, _ => []
  | d + 1, m => if rdOf false g (m : Int) = true then (m : Int) :: picked g d (m + 1) else picked g d (m + 1)
theorem picked_mem (g : List Bool) (d : Nat) : ∀ m (x : Int), x ∈ picked g d m ↔ ((m : Int) ≤ x ∧ x < (m : Int) + d) ∧ rdOf false g x = true := by
  induction d with
  | zero => intro m x; simp [picked]; omega
  | succ d ih =>
    intro m x
    have e : (((m : Int) ≤ x ∧ x < (m : Int) + (d + 1 : Nat)) ∧ rdOf false g x = true) ↔ (x = m ∧ rdOf false g x = true) ∨ ((((m + 1 : Nat) : Int) ≤ x ∧ x < ((m + 1 : Nat) : Int) + d) ∧ rdOf false g x = true) := by
      constructor
      · rintro ⟨a, b⟩
        by_cases z : x = m
        · exact .inl ⟨z, b⟩
        · exact .inr ⟨by omega, b⟩
      · rintro (⟨a, b⟩ | ⟨a, b⟩)
        · exact ⟨by omega, b⟩
        · exact ⟨by omega, b⟩
    rw [e, ← ih]
    simp only [picked]
    by_cases h : rdOf false g (m : Int) = true
    · rw [if_pos h, List.mem_cons]
      exact or_congr ⟨fun z => ⟨z, by rw [z]; exact h⟩, fun z => z.1⟩ Iff.rfl
    · rw [if_neg h]
      exact ⟨.inr, fun z => z.elim (fun w => absurd (by rw [← w.1]; exact w.2) h) id⟩
theorem picked_asc (g : List Bool) (d : Nat) : ∀ m, (picked g d m).Pairwise (· < ·) := by
  induction d with
  | zero => intro m; exact List.Pairwise.nil
  | succ d ih =>
    intro m
    simp only [picked]
    split
    · refine List.pairwise_cons.2 ⟨fun x hx => ?_, ih (m + 1)⟩
      have := (picked_mem g d (m + 1) x).1 hx
      omega
    · exact ih (m + 1)
theorem picked_length (g : List Bool) (d : Nat) : ∀ m, (picked g d m).length ≤ d := by
  induction d with
  | zero => intro m; simp [picked]
  | succ d ih =>
    intro m
    simp only [picked]
    have := ih (m + 1)
    split <;> simp <;> omega
theorem rdOf_set {l : List Bool} {i j : Int} (x : Bool) (i0 : 0 ≤ i) (i1 : i < l.length) (j0 : 0 ≤ j) : rdOf false (l.set i.toNat x) j = if j = i then x else rdOf false l j := by
  simp only [rdOf, List.getD_eq_getElem?_getD, List.getElem?_set]
  by_cases h : j = i
  · subst h
    rw [if_pos rfl, if_pos rfl, if_pos (by omega)]
    rfl
  · rw [if_neg h, if_neg (by omega)]
theorem l_at (l : List Int) {i : Int} (i0 : 0 ≤ i) (i1 : i < l.length) : rd l i ∈ l := by
  have hu : i.toNat < l.length := by omega
  have : rd l i = l[i.toNat] := by simp [rd, List.getD_eq_getElem?_getD, List.getElem?_eq_getElem hu]
  rw [this]
  exact List.getElem_mem _
end Go.Proofs.Ytmofdldplbplbaa.Q
namespace Go.Proofs.Ytmofdldplbplbaa.Q
open Go Go.RowKit Go.Proofs.Ytmofdldplbplbaa.P Go.Proofs.YtmofdldplbplbaaW.PrintWords Go.Proofs.YtmofdldplbplbaaW.PrintMore
open Classical in
noncomputable def ginv (k p x : Int) : Int := if h : gok k p ∧ 0 ≤ x ∧ x < gord k p then (inverses h.1 h.2.1 h.2.2).choose else 0
theorem ginv_spec {k p x : Int} (hg : gok k p) (x0 : 0 ≤ x) (x1 : x < gord k p) : (0 ≤ ginv k p x ∧ ginv k p x < gord k p) ∧ gmul k p x (ginv k p x) = 0 ∧ (∀ q, 0 ≤ q → q < ginv k p x → gmul k p x q ≠ 0) ∧ Ev (fun n => spec_l05Inverse.f n k p x) (ginv k p x) ∧ Ev (fun n => impl_Group_inverse.f n k p x) (ginv k p x) := by
  unfold ginv
  rw [dif_pos ⟨hg, x0, x1⟩]
  exact (inverses hg x0 x1).choose_spec
theorem gmul_unit {k p x : Int} (h : gok k p) (x0 : 0 ≤ x) (x1 : x < gord k p) : gmul k p x 0 = x := by
  rcases h with ⟨rfl, a, b⟩ | ⟨rfl, a, b⟩ | ⟨rfl, hp⟩
  · simp only [gmul, gord, if_true] at *
    rw [Int.add_zero, Int.emod_eq_of_lt x0 x1]
  · simp only [gmul, gord, show ¬ (1 : Int) = 0 by decide, if_true, if_false, Int.zero_ediv, Int.zero_emod] at *
    by_cases hx : x < p
    · rw [if_pos hx]
      simp [Int.emod_eq_of_lt x0 hx]
    · rw [if_neg hx, show x - p - 0 + p = x - p + p by omega]
      rw [show (1 + 0 : Int) % 2 = 1 by decide, Int.add_emod_right, Int.emod_eq_of_lt (by omega) (by omega)]
      omega
  · have key : ∀ p ∈ [2, 3, 5, 7], ∀ x < p * (p - 1), gmul 2 (p : Nat) (x : Nat) 0 = (x : Nat) := by decide +kernel
    have hq : ∃ q : Nat, p = q ∧ q ∈ [2, 3, 5, 7] := by rcases hp with rfl | rfl | rfl | rfl <;> exact ⟨_, rfl, by decide⟩
    obtain ⟨q, rfl, hq⟩ := hq
    have g : gord 2 (q : Int) = ((q * (q - 1) : Nat) : Int) := by
      simp at hq
      rcases hq with rfl | rfl | rfl | rfl <;> simp [gord]
    rw [g] at x1
    have := key q hq x.toNat (by omega)
    rwa [Int.toNat_of_nonneg x0] at this
theorem ginv_ne {k p x : Int} (hg : gok k p) (x0 : 0 ≤ x) (x1 : x < gord k p) (hx : x ≠ 0) : ginv k p x ≠ 0 := by
  intro e
  have := (ginv_spec hg x0 x1).2.1
  rw [e, gmul_unit hg x0 x1] at this
  exact hx this
section
variable {k p : Int} (hg : gok k p) (l : List Int) (hl : l.length ≤ 1048576) (hm : ∀ x ∈ l, 0 ≤ x ∧ x < gord k p)
include hg hl hm
theorem s_closed : ∃ c : List Int, Ev (fun m => spec_l05Closed.f m k p l) c ∧ c.Pairwise (· < ·) ∧ c.length ≤ 62 ∧ ∀ x, x ∈ c ↔ (1 ≤ x ∧ x < gord k p) ∧ ∃ a ∈ l, x = a ∨ x = ginv k p a := by
  have ho := gord_pos hg
  have collect : ∀ (g : List Bool), (g.length : Int) = gord k p → ∀ (d : Nat) (i : Nat) (acc : List Int), 1 ≤ i → (i : Int) ≤ gord k p → gord k p - i = d → acc.length ≤ i → Ev (fun m => spec_l05Closed.l1 m g acc i) (acc ++ picked g d i) := by
    intro g hgl d
    induction d with
    | zero =>
      intro i acc i1 i2 hd ha
      refine ev_k ?_
      simp only [spec_l05Closed.l1, picked, List.append_nil]
      exact ev_neg (by omega) (Ev.now _)
    | succ d ih =>
      intro i acc i1 i2 hd ha
      refine ev_k ?_
      simp only [spec_l05Closed.l1, picked]
      rw [w64 (a := (i : Int) + 1) (by omega) (by omega)]
      refine ev_pos (by omega) (ev_pos (by omega) ?_)
      by_cases h : rdOf false g (i : Int) = true
      · have := ih (i + 1) (acc ++ [(i : Int)]) (by omega) (by omega) (by omega) (by simp; omega)
        rw [if_pos h]
        refine ev_pos h (ev_pos (by omega) ?_)
        simpa using this
      · rw [if_neg h]
        exact ev_neg h (ih (i + 1) acc (by omega) (by omega) (by omega) (by omega))
  have mark : ∀ (d : Nat) (i : Int) (g : List Bool), 0 ≤ i → i ≤ l.length → l.length - i = d → (g.length : Int) = gord k p → (∀ x, 0 ≤ x → x < gord k p → (rdOf false g x = true ↔ ∃ j : Int, (0 ≤ j ∧ j < i) ∧ (x = rd l j ∨ x = ginv k p (rd l j)))) → ∃ c : List Int, Ev (fun m => spec_l05Closed.l0 m l g [] i k p) c ∧ c.Pairwise (· < ·) ∧ c.length ≤ 62 ∧ ∀ x, x ∈ c ↔ (1 ≤ x ∧ x < gord k p) ∧ ∃ a ∈ l, x = a ∨ x = ginv k p a := by
    intro d
    induction d with
    | zero =>
      intro i g i0 i1 hd hgl hgm
      have := collect g hgl (gord k p - 1).toNat 1 [] (by omega) (by omega) (by omega) (by simp)
      rw [List.nil_append] at this
      refine ⟨picked g (gord k p - 1).toNat 1, ev_k ?_, picked_asc g _ 1, by have := picked_length g (gord k p - 1).toNat 1; omega, fun x => ?_⟩
      · simp only [spec_l05Closed.l0]
        exact ev_neg (by omega) this
      · rw [picked_mem]
        constructor
        · rintro ⟨a, b⟩
          obtain ⟨j, hj, e⟩ := (hgm x (by omega) (by omega)).1 b
          exact ⟨by omega, rd l j, l_at l hj.1 (by omega), e⟩
        · rintro ⟨a, y, hy, e⟩
          refine ⟨by omega, (hgm x (by omega) (by omega)).2 ?_⟩
          obtain ⟨j, hj, rfl⟩ := List.getElem_of_mem hy
          have ej : rd l (j : Int) = l[j] := by simp [rd, List.getD_eq_getElem?_getD, List.getElem?_eq_getElem hj]
          exact ⟨j, by omega, by rw [ej]; exact e⟩
    | succ d ih =>
      intro i g i0 i1 hd hgl hgm
      obtain ⟨x0, x1⟩ := hm _ (l_at l i0 (by omega))
      obtain ⟨v01, _, _, hs, _⟩ := ginv_spec hg x0 x1
      obtain ⟨c, hc, h2, h3, h4⟩ := ih (i + 1) ((g.set (rd l i).toNat true).set (ginv k p (rd l i)).toNat true) (by omega) (by omega) (by omega) (by simpa using hgl) fun x a b => by
        rw [rdOf_set _ v01.1 (by simp; omega) a, rdOf_set _ x0 (by omega) a]
        constructor
        · intro z
          by_cases e : x = ginv k p (rd l i)
          · exact ⟨i, by omega, .inr e⟩
          · rw [if_neg e] at z
            by_cases f : x = rd l i
            · exact ⟨i, by omega, .inl f⟩
            · rw [if_neg f] at z
              obtain ⟨j, hj, y⟩ := (hgm x a b).1 z
              exact ⟨j, by omega, y⟩
        · rintro ⟨j, hj, y⟩
          by_cases e : x = ginv k p (rd l i)
          · rw [if_pos e]
          · rw [if_neg e]
            by_cases f : x = rd l i
            · rw [if_pos f]
            · rw [if_neg f]
              have : j ≠ i := by
                rintro rfl
                exact y.elim f e
              exact (hgm x a b).2 ⟨j, by omega, y⟩
      refine ⟨c, ev_k ?_, h2, h3, h4⟩
      simp only [spec_l05Closed.l0]
      rw [w64 (a := i + 1) (by omega) (by omega)]
      exact ev_pos (by omega) (ev_pos i0 (ev_pos x0 (ev_pos (by omega) (Ev.bind hs (ev_pos v01.1 (ev_pos (by omega) hc))))))
  obtain ⟨c, hc, h⟩ := mark l.length 0 (List.replicate (gord k p).toNat false) (by omega) (by omega) (by omega) (by simp; omega) fun x a b => by
    have : x.toNat < (gord k p).toNat := by omega
    simp [rdOf, List.getD_eq_getElem?_getD, this]
    intro j h1 h2
    omega
  refine ⟨c, ?_, h⟩
  unfold spec_l05Closed.f
  rw [s_order hg]
  simp only [Option.bind_some]
  exact ev_pos (by omega) (ev_pos (by omega) hc)
end
end Go.Proofs.Ytmofdldplbplbaa.Q
namespace Go.Proofs.Ytmofdldplbplbaa.Q
open Go Go.RowKit Go.Proofs.Ytmofdldplbplbaa.P Go.Proofs.YtmofdldplbplbaaW.PrintWords Go.Proofs.YtmofdldplbplbaaW.PrintMore
theorem rd_at (l : List Int) (i : Int) (h1 : i.toNat < l.length) : rd l i = l[i.toNat] := by
  simp [rd, List.getD_eq_getElem?_getD, List.getElem?_eq_getElem h1]
theorem toS_l0 (l : List Int) (hl : l.length < 9223372036854775807) (d : Nat) : ∀ (m : List Int) (i : Int), 0 ≤ i → i ≤ l.length → l.length - i = d → m.length = l.length → (∀ j, j < i.toNat → m[j]? = l[j]?) →
    Ev (fun k => laws_toInt64S.l0 k l m i) l := by
  induction d with
  | zero =>
    intro m i h0 h1 hd hm hj
    refine ev_k ?_
    simp only [laws_toInt64S.l0]
    refine ev_neg (by omega) (ev_some (List.ext_getElem? fun j => ?_))
    by_cases h : j < i.toNat
    · exact hj j h
    · rw [List.getElem?_eq_none (by omega), List.getElem?_eq_none (by omega)]
  | succ d ih =>
    intro m i h0 h1 hd hm hj
    refine ev_k ?_
    simp only [laws_toInt64S.l0]
    refine ev_pos (by omega) (ev_pos h0 (ev_pos (by omega) ?_))
    rw [w64 (a := i + 1) (by omega) (by omega)]
    refine ih _ (i + 1) (by omega) (by omega) (by omega) (by simpa using hm) fun j h => ?_
    rw [List.getElem?_set]
    split
    · subst_vars
      rw [if_pos (by omega), rd_at l i (by omega), List.getElem?_eq_getElem]
    · exact hj j (by omega)
theorem toS (l : List Int) (hl : l.length ≤ 35184372088832) : Ev (fun k => laws_toInt64S.f k l) l := by
  unfold laws_toInt64S.f
  refine ev_pos (by omega) (ev_pos (by omega) ?_)
  exact toS_l0 l (by omega) l.length _ 0 (by omega) (by omega) (by omega) (by simp) (fun j h => by simp at h)
theorem eqS_l0 (l m : List Int) (e : l.length = m.length) (hl : l.length < 9223372036854775807) (d : Nat) : ∀ (i : Int), 0 ≤ i → i ≤ l.length → l.length - i = d →
    Ev (fun k => laws_eqInt64S.l0 k l m i) (decide (l.drop i.toNat = m.drop i.toNat)) := by
  have dc : ∀ (l : List Int) (i : Int), 0 ≤ i → i < l.length → l.drop i.toNat = rd l i :: l.drop (i + 1).toNat := fun l i h0 h1 => by
    rw [List.drop_eq_getElem_cons (by omega : i.toNat < l.length), show (i + 1).toNat = i.toNat + 1 by omega, rd_at l i (by omega)]
  induction d with
  | zero =>
    intro i h0 h1 hd
    refine ev_k ?_
    simp only [laws_eqInt64S.l0]
    refine ev_neg (by omega) (ev_some ?_)
    rw [List.drop_of_length_le (by omega), List.drop_of_length_le (by omega)]
    rfl
  | succ d ih =>
    intro i h0 h1 hd
    refine ev_k ?_
    simp only [laws_eqInt64S.l0]
    refine ev_pos (by omega) (ev_pos h0 (ev_pos (by omega) ?_))
    rw [w64 (a := i + 1) (by omega) (by omega), dc l i h0 (by omega), dc m i h0 (by omega)]
    by_cases h : rd l i = rd m i
    · refine ev_pos h ?_
      simp only [List.cons.injEq, h, true_and]
      exact ih (i + 1) (by omega) (by omega) (by omega)
    · refine ev_neg h (ev_some ?_)
      simp [h]
theorem eqS (l m : List Int) (hl : l.length < 9223372036854775807) : Ev (fun k => laws_eqInt64S.f k l m) (decide (l = m)) := by
  unfold laws_eqInt64S.f
  by_cases e : l.length = m.length
  · refine ev_pos (by omega) ?_
    simpa using eqS_l0 l m e hl l.length 0 (by omega) (by omega) (by omega)
  · refine ev_neg (by omega) (ev_some ?_)
    exact (decide_eq_false fun h => e (by rw [h])).symm
theorem eqS_self (l : List Int) (hl : l.length < 9223372036854775807) : Ev (fun k => laws_eqInt64S.f k l l) true := by
  simpa using eqS l l hl
def marks (a : Int) (n : Nat) : List Int := (List.range n).map fun (j : Nat) => a + (j : Int)
theorem marks_length (a : Int) (n : Nat) : (marks a n).length = n := by simp [marks]
theorem marks_at (a : Int) (n j : Nat) (h : j < n) : (marks a n)[j]? = some (a + j) := by
  simp [marks, h]
theorem mark_l0 (n : Nat) (a : Int) (ha : 0 ≤ a) (hn : a + n < 9223372036854775807) (d : Nat) : ∀ (m : List Int) (i : Int), 0 ≤ i → i ≤ n → n - i = d → m.length = n → (∀ j, j < i.toNat → m[j]? = some (a + j)) →
    Ev (fun k => laws_markInt64S.l0 k m (a + i) i) (a + n, marks a n) := by
  induction d with
  | zero =>
    intro m i h0 h1 hd hm hj
    refine ev_k ?_
    simp only [laws_markInt64S.l0]
    refine ev_neg (by omega) (ev_some ?_)
    have : m = marks a n := by
      refine List.ext_getElem? fun j => ?_
      by_cases h : j < n
      · rw [hj j (by omega), marks_at a n j h]
      · rw [List.getElem?_eq_none (by omega), List.getElem?_eq_none (by rw [marks_length]; omega)]
    rw [this, show i = n by omega]
  | succ d ih =>
    intro m i h0 h1 hd hm hj
    refine ev_k ?_
    simp only [laws_markInt64S.l0]
    refine ev_pos (by omega) (ev_pos h0 ?_)
    rw [w64 (a := i + 1) (by omega) (by omega), w64 (a := a + i + 1) (by omega) (by omega), show a + i + 1 = a + (i + 1) by omega]
    refine ih _ (i + 1) (by omega) (by omega) (by omega) (by simpa using hm) fun j h => ?_
    rw [List.getElem?_set]
    split
    · subst_vars
      rw [if_pos (by omega), Int.toNat_of_nonneg h0]
    · exact hj j (by omega)
theorem markS (l : List Int) (a : Int) (ha : 0 ≤ a) (hn : a + l.length < 9223372036854775807) : Ev (fun k => laws_markInt64S.f k l a) (a + l.length, marks a l.length) := by
  unfold laws_markInt64S.f
  have h := mark_l0 l.length a ha hn l.length l 0 (by omega) (by omega) (by omega) rfl (fun j h => by simp at h)
  rwa [Int.add_zero] at h
theorem held_l0 (n : Nat) (a : Int) (ha : 0 ≤ a) (hn : a + n < 9223372036854775807) (d : Nat) : ∀ (i : Int), 0 ≤ i → i ≤ n → n - i = d →
    Ev (fun k => laws_heldInt64S.l0 k (marks a n) (a + i) i) (a + n) := by
  induction d with
  | zero =>
    intro i h0 h1 hd
    refine ev_k ?_
    simp only [laws_heldInt64S.l0]
    exact ev_neg (by rw [marks_length]; omega) (ev_some (by omega))
  | succ d ih =>
    intro i h0 h1 hd
    refine ev_k ?_
    simp only [laws_heldInt64S.l0]
    refine ev_pos (by rw [marks_length]; omega) (ev_pos h0 (ev_pos ?_ ?_))
    · have := marks_at a n i.toNat (by omega)
      simp only [rd, List.getD_eq_getElem?_getD, this, Option.getD_some]
      omega
    · rw [w64 (a := i + 1) (by omega) (by omega), w64 (a := a + i + 1) (by omega) (by omega), show a + i + 1 = a + (i + 1) by omega]
      exact ih (i + 1) (by omega) (by omega) (by omega)
theorem heldS (n : Nat) (a : Int) (ha : 0 ≤ a) (hn : a + n < 9223372036854775807) : Ev (fun k => laws_heldInt64S.f k (marks a n) a) (a + n) := by
  unfold laws_heldInt64S.f
  have h := held_l0 n a ha hn n 0 (by omega) (by omega) (by omega)
  rwa [Int.add_zero] at h
end Go.Proofs.Ytmofdldplbplbaa.Q
namespace Go.Proofs.Ytmofdldplbplbaa.Pure
open Go Go.RowKit Go.Proofs.Ytmofdldplbplbaa.P Go.Proofs.YtmofdldplbplbaaW.PrintWords Go.Proofs.YtmofdldplbplbaaW.PrintLast Go.Proofs.YtmofdldplbplbaaW.PrintMore Go.Proofs.Ytmofdldplbplbaa.Q
theorem upTo_law (d : Array Int) (hs : ∀ i j, i < j → j < d.size → d[i]! ≤ d[j]!) (m : Nat) : m ≤ d.size → (Lib.compactUpTo d m).Pairwise (· < ·) ∧ ∀ x, x ∈ Lib.compactUpTo d m ↔ ∃ j, j < m ∧ d[j]! = x := by
  induction m with
  | zero => intro _; simp [Lib.compactUpTo]
  | succ m ih =>
    intro hm
    obtain ⟨h1, h2⟩ := ih (by omega)
    rw [Lib.compactUpTo_succ]
    by_cases hk : Lib.keeps d m = true
    · rw [if_pos hk]
      refine ⟨List.pairwise_append.2 ⟨h1, by simp, fun a ha b hb => ?_⟩, fun x => ?_⟩
      · obtain ⟨j, hj, rfl⟩ := (h2 a).1 ha
        simp at hb
        subst hb
        have k2 : m = 0 ∨ d[m]! ≠ d[m - 1]! := by simpa [Lib.keeps] using hk
        rcases k2 with k2 | k2
        · omega
        · have a1 := hs (m - 1) m (by omega) (by omega)
          by_cases e : j = m - 1
          · subst e
            omega
          · have a2 := hs j (m - 1) (by omega) (by omega)
            omega
      · rw [List.mem_append, h2]
        constructor
        · rintro (⟨j, hj, e⟩ | h)
          · exact ⟨j, by omega, e⟩
          · simp at h
            exact ⟨m, by omega, h.symm⟩
        · rintro ⟨j, hj, e⟩
          by_cases q : j = m
          · subst q
            exact .inr (by simp [e])
          · exact .inl ⟨j, by omega, e⟩
    · rw [if_neg hk, List.append_nil]
      refine ⟨h1, fun x => ?_⟩
      have k2 : ¬ (m = 0 ∨ d[m]! ≠ d[m - 1]!) := by simpa [Lib.keeps] using hk
      have k3 : m ≠ 0 := fun e => k2 (.inl e)
      have k4 : d[m]! = d[m - 1]! := Classical.byContradiction fun e => k2 (.inr e)
      rw [h2]
      constructor
      · rintro ⟨j, hj, e⟩
        exact ⟨j, by omega, e⟩
      · rintro ⟨j, hj, e⟩
        by_cases q : j = m
        · subst q
          exact ⟨j - 1, by omega, by rw [← k4]; exact e⟩
        · exact ⟨j, by omega, e⟩
theorem compact_law (zs : List Int) (hs : zs.Pairwise (· ≤ ·)) : (Lib.compact zs).Pairwise (· < ·) ∧ ∀ x, x ∈ Lib.compact zs ↔ x ∈ zs := by
  have at_ : ∀ j, j < zs.length → zs.toArray[j]! = zs.getD j 0 := fun j hj => by simp [hj]
  have h := upTo_law zs.toArray (fun i j hij hj => by
    have hj' : j < zs.length := by simpa using hj
    have := List.pairwise_iff_getElem.1 hs i j (by omega) hj' hij
    rw [at_ i (by omega), at_ j hj']
    simpa [List.getD_eq_getElem?_getD, hj', (show i < zs.length by omega)] using this) zs.length (by simp)
  refine ⟨h.1, fun x => (h.2 x).trans ⟨?_, fun hx => ?_⟩⟩
  · rintro ⟨j, hj, rfl⟩
    rw [at_ j hj]
    simp [List.getD_eq_getElem?_getD, hj]
  · obtain ⟨j, hj, rfl⟩ := List.getElem_of_mem hx
    exact ⟨j, hj, by rw [at_ j hj]; simp [List.getD_eq_getElem?_getD, hj]⟩
section
variable {k p : Int}
theorem ginv_zero (hg : gok k p) : ginv k p 0 = 0 := by
  have g := gord_pos hg
  obtain ⟨a, _, c, _⟩ := ginv_spec hg (Int.le_refl 0) g.1
  have u := gmul_unit hg (Int.le_refl 0) g.1
  by_cases e : ginv k p 0 = 0
  · exact e
  · exact absurd u (c 0 (by omega) (by omega))
theorem i_walk (hg : gok k p) (l : List Int) (hl : l.length ≤ 62) (hm : ∀ x ∈ l, 0 ≤ x ∧ x < gord k p) (d : Nat) : ∀ (i : Nat) (acc : List Int), i + d = l.length → acc.length ≤ 2 * i →
    ∃ r : List Int, r.length ≤ 124 ∧ (∀ x, x ∈ r ↔ x ∈ acc ∨ ∃ j : Nat, (i ≤ j ∧ j < l.length) ∧ rd l (j : Int) ≠ 0 ∧ (x = rd l (j : Int) ∨ x = ginv k p (rd l (j : Int)))) ∧ Ev (fun n => impl_ClosedSet.l0 n acc l (l.length : Int) (i : Int) k p) (Lib.compact (r.mergeSort fun x y => decide (x ≤ y)), 0) := by
  induction d with
  | zero =>
    intro i acc hi ha
    refine ⟨acc, by omega, fun x => ⟨.inl, fun h => h.elim id fun ⟨j, hj, _⟩ => by omega⟩, ev_k ?_⟩
    simp only [impl_ClosedSet.l0]
    refine ev_neg (by omega) (ev_bind0 (a := acc.mergeSort fun x y => decide (x ≤ y)) ?_ (ev_bind0 (a := Lib.compact (acc.mergeSort fun x y => decide (x ≤ y))) ?_ (Ev.now _)))
    · unfold slices_Sort_int64_int64.f
      rw [if_pos (by omega)]
    · unfold slices_Compact_int64_int64.f
      rw [if_pos (by rw [List.length_mergeSort]; omega)]
  | succ d ih =>
    intro i acc hi ha
    obtain ⟨x0, x1⟩ := hm _ (l_at l (i := (i : Int)) (by omega) (by omega))
    obtain ⟨v01, _, _, _, hv⟩ := ginv_spec hg x0 x1
    by_cases z : rd l (i : Int) = 0
    · obtain ⟨r, hr, hx, he⟩ := ih (i + 1) acc (by omega) (by omega)
      rw [Int.natCast_add] at he
      refine ⟨r, hr, fun x => (hx x).trans (or_congr Iff.rfl ⟨fun ⟨j, a, b⟩ => ⟨j, by omega, b⟩, fun ⟨j, a, b, c⟩ => ⟨j, ?_, b, c⟩⟩), ev_k ?_⟩
      · have : j ≠ i := fun e => by rw [e] at b; exact b z
        omega
      · simp only [impl_ClosedSet.l0]
        rw [w64 (a := (i : Int) + 1) (by omega) (by omega)]
        exact ev_pos (by omega) (ev_pos (by omega) (ev_pos (by omega) (ev_pos z he)))
    · obtain ⟨r, hr, hx, he⟩ := ih (i + 1) (acc ++ [rd l (i : Int), ginv k p (rd l (i : Int))]) (by omega) (by simp; omega)
      rw [Int.natCast_add] at he
      refine ⟨r, hr, fun x => (hx x).trans ?_, ev_k ?_⟩
      · rw [List.mem_append]
        constructor
        · rintro ((h | h) | ⟨j, a, b⟩)
          · exact .inl h
          · simp at h
            exact .inr ⟨i, by omega, z, h⟩
          · exact .inr ⟨j, by omega, b⟩
        · rintro (h | ⟨j, a, b, c⟩)
          · exact .inl (.inl h)
          · by_cases e : j = i
            · subst e
              exact .inl (.inr (by simpa using c))
            · exact .inr ⟨j, by omega, b, c⟩
      · simp only [impl_ClosedSet.l0]
        rw [w64 (a := (i : Int) + 1) (by omega) (by omega)]
        exact ev_pos (by omega) (ev_pos (by omega) (ev_pos (by omega) (ev_neg z (Ev.bind hv (ev_bind0 rfl (ev_pos (by simp; omega) he))))))
end
theorem both (k p : Int) (l : List Int) (hs : l.length ≤ 1048576) : ∃ r c, r.length ≤ 62 ∧ Ev (fun n => spec_ClosedSet.f n k p l) (r, c) ∧ Ev (fun n => impl_ClosedSet.f n k p l) (r, c) := by
  unfold spec_ClosedSet.f impl_ClosedSet.f spec_l05List.f impl_fewCode.f
  have c1 := s_elems k p l (by omega)
  have c2 := i_code k p l (by omega)
  by_cases z : gcode k p l = 0
  · by_cases hl : (l.length : Int) > 62
    · exact ⟨[], 2, by simp, Ev.bind (Ev.bind c1 (ev_pos z (ev_pos hl (Ev.now _)))) (ev_neg (by decide) (Ev.now _)), Ev.bind (Ev.bind c2 (ev_pos z (ev_pos hl (Ev.now _)))) (ev_neg (by decide) (Ev.now _))⟩
    · obtain ⟨hg, hm⟩ := gcode_zero z
      have g := gord_pos hg
      obtain ⟨c, hc, asc, len, mem⟩ := s_closed hg l hs hm
      obtain ⟨r, hr, hx, he⟩ := i_walk hg l (by omega) hm l.length 0 [] (by omega) (by simp)
      have e : Lib.compact (r.mergeSort fun x y => decide (x ≤ y)) = c := by
        have hp := List.mergeSort_perm r (fun x y => decide (x ≤ y))
        have hso := List.pairwise_mergeSort (le := fun x y : Int => decide (x ≤ y)) (fun a b c h1 h2 => by simp at *; omega) (fun a b => by simp; omega) r
        obtain ⟨h1, h2⟩ := compact_law (r.mergeSort fun x y => decide (x ≤ y)) (hso.imp (fun {a b} h => by simpa using h))
        refine asc_ext _ _ h1 asc (fun x => ?_)
        rw [h2, hp.mem_iff, hx, mem]
        constructor
        · rintro (h | ⟨j, hj, b, c⟩)
          · simp at h
          · have hin := l_at l (i := (j : Int)) (by omega) (by omega)
            obtain ⟨x0, x1⟩ := hm _ hin
            obtain ⟨v01, _⟩ := ginv_spec hg x0 x1
            have := ginv_ne hg x0 x1 b
            exact ⟨by rcases c with rfl | rfl <;> omega, _, hin, c⟩
        · rintro ⟨hr, a, ha, c⟩
          obtain ⟨j, ⟨j0, j1⟩, rfl⟩ := mem_rd' ha
          refine .inr ⟨j.toNat, by omega, ?_⟩
          rw [Int.toNat_of_nonneg j0]
          refine ⟨fun h0 => ?_, c⟩
          rw [h0, ginv_zero hg] at c
          omega
      rw [e] at he
      refine ⟨c, 0, len, Ev.bind (Ev.bind c1 (ev_pos z (ev_neg hl (Ev.now _)))) (ev_pos z (Ev.bind hc (Ev.now _))), Ev.bind (Ev.bind c2 (ev_pos z (ev_neg hl (Ev.now _)))) (ev_pos rfl he)⟩
  · exact ⟨[], gcode k p l, by simp, Ev.bind (Ev.bind c1 (ev_neg z (Ev.now _))) (ev_neg z (Ev.now _)), Ev.bind (Ev.bind c2 (ev_neg z (Ev.now _))) (ev_neg z (Ev.now _))⟩
theorem FnExactClosedSet : ∀ (a0_0 : Int) (a0_1 : Int) (l1 : List Int), (Lit.int .i64 a0_0).wf = true → (Lit.int .i64 a0_1).wf = true → l1.length ≤ maxLen → (∀ x ∈ l1, (Lit.int .i64 x).wf = true) → ∃ k, laws_FnExactClosedSet.f k a0_0 a0_1 l1 = some true := by
  intro k p l _ _ _ _
  refine Ev.rounds ?_
  unfold laws_FnExactClosedSet.f
  by_cases hs : (l.length : Int) > 1048576
  · exact ev_pos hs (Ev.now _)
  refine ev_neg hs ?_
  obtain ⟨r, c, hr, h1, h2⟩ := both k p l (by omega)
  have tg : laws_toGroup.f k p = some (k, p) := by
    unfold laws_toGroup.f
    rfl
  have tl := toS l (by omega)
  have er := eqS_self r (by omega)
  have el := eqS_self l (by omega)
  refine ev_bind0 tg (Ev.bind tl (Ev.bind h1 (Ev.bind tl (ev_bind0 tg (Ev.bind h2 (Ev.bind er (ev_pos rfl ?_)))))))
  refine ev_k ?_
  simp only [laws_FnExactClosedSet.j0]
  refine ev_neg (by simp) (Ev.bind tl (Ev.bind el (ev_pos rfl (Ev.bind (markS l 1 (by omega) (by omega)) (ev_neg (by simp only []; omega) (Ev.bind er (ev_pos rfl ?_)))))))
  refine ev_k ?_
  simp only [laws_FnExactClosedSet.j1]
  refine ev_neg (by simp) (Ev.bind (markS r 1 (by omega) (by omega)) (Ev.bind (heldS r.length 1 (by omega) (by omega)) (ev_neg (by omega) (ev_pos rfl ?_))))
  refine ev_bind0 tg (Ev.bind tl (Ev.bind h2 (Ev.bind er (ev_pos rfl ?_))))
  refine ev_k ?_
  simp only [laws_FnExactClosedSet.j2]
  exact ev_neg (by simp) (Ev.bind (heldS r.length 1 (by omega) (by omega)) (ev_neg (by omega) (ev_pos rfl (Ev.now _))))
end Go.Proofs.Ytmofdldplbplbaa.Pure
