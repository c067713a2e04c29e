/- The pure law and what it leans on, in one text (wip/bin/bundle). -/
import Derived.Test.YtkmpkcofddpdgaaP11
import Derived.Test.YtkmpkcofddpdgaaP12
import Derived.Test.YtkmpkcofddpdgaaP21
import Derived.Test.YtkmpkcofddpdgaaP23
import Derived.Test.YtkmpkcofddpdgaaP29
import Derived.Test.YtkmpkcofddpdgaaP9
import Derived.Test.YtkmpkcofddpdgaaP20
import Derived.Test.YtkmpkcofddpdgaaP7
import Derived.Test.YtkmpkcofddpdgaaP8
import Derived.Test.YtkmpkcofddpdgaaP19
import Derived.Test.YtkmpkcofddpdgaaP6
import Derived.Test.YtkmpkcofddpdgaaP1
import Derived.Test.YtkmpkcofddpdgaaP14
import Derived.Test.YtkmpkcofddpdgaaP15
import Derived.Test.YtkmpkcofddpdgaaP16
import Derived.Test.YtkmpkcofddpdgaaP18
import Derived.Test.YtkmpkcofddpdgaaP3
import Derived.Test.YtkmpkcofddpdgaaP4
import Derived.Test.YtkmpkcofddpdgaaP5
import Derived.Test.YtkmpkcofddpdgaaWA
import Derived.Test.YtkmpkcofddpdgaaWBMore
import Derived.Test.YtkmpkcofddpdgaaP17
import Derived.Laws.BitsLemmas
import Derived.Test.YtkmpkcofddpdgaaP10
import Derived.Test.YtkmpkcofddpdgaaP22
import Derived.Test.YtkmpkcofddpdgaaP25
import Derived.Test.YtkmpkcofddpdgaaP26
import Derived.Test.YtkmpkcofddpdgaaP28
import Derived.Test.YtkmpkcofddpdgaaP13
import Derived.Test.YtkmpkcofddpdgaaP24
import Derived.Test.YtkmpkcofddpdgaaP27
namespace Go.Proofs.Ytkmpkcofddpdgaa.Q
open Go Go.RowKit Go.Proofs.YtkmpkcofddpdgaaW.PrintWords Go.Proofs.YtkmpkcofddpdgaaW.PrintMore
theorem ev_k {α : Type} {g : Nat → Option α} {r : α} (h : Ev (fun k => g (k + 1)) r) : Ev g r := Ev.step (fun _ => rfl) h
theorem ev_some {α : Type} {r s : α} (h : r = s) : Ev (fun _ => some r) s := h ▸ Ev.now r
theorem ev_pos {α : Type} {c : Prop} [Decidable c] {f g : Nat → Option α} {r : α} (h : c) (H : Ev f r) : Ev (fun k => if c then f k else g k) r :=
  Ev.congr (fun _ => if_pos h) H
theorem ev_neg {α : Type} {c : Prop} [Decidable c] {f g : Nat → Option α} {r : α} (h : ¬ c) (H : Ev g r) : Ev (fun k => if c then f k else g k) r :=
  Ev.congr (fun _ => if_neg h) H
theorem ev_of {α : Type} {o : Option α} {r : α} (h : o = some r) : Ev (fun _ => o) r := ⟨0, fun _ _ => h⟩
theorem ev_bind0 {α β : Type} {o : Option α} {f : Nat → α → Option β} {a : α} {r : β} (h : o = some a) (H : Ev (fun n => f n a) r) : Ev (fun n => o.bind (f n)) r :=
  Ev.bind (ev_of h) H
theorem w64 {a : Int} (h0 : -9223372036854775808 ≤ a) (h1 : a < 9223372036854775808) : wrap64 a = a := by
  unfold wrap64
  omega
def Says (g : Nat → Option Bool) (P : Prop) : Prop := ∃ b : Bool, Ev g b ∧ (b = true ↔ P)
theorem says_iff {g : Nat → Option Bool} {P R : Prop} (h : P ↔ R) (H : Says g R) : Says g P := by
  obtain ⟨b, hb, e⟩ := H
  exact ⟨b, hb, e.trans h.symm⟩
theorem says_k {g : Nat → Option Bool} {P : Prop} (H : Says (fun k => g (k + 1)) P) : Says g P := by
  obtain ⟨b, hb, e⟩ := H
  exact ⟨b, ev_k hb, e⟩
theorem says_pos {c : Prop} [Decidable c] {f g : Nat → Option Bool} {P : Prop} (h : c) (H : Says f P) : Says (fun k => if c then f k else g k) P := by
  obtain ⟨b, hb, e⟩ := H
  exact ⟨b, ev_pos h hb, e⟩
theorem says_neg {c : Prop} [Decidable c] {f g : Nat → Option Bool} {P : Prop} (h : ¬ c) (H : Says g P) : Says (fun k => if c then f k else g k) P := by
  obtain ⟨b, hb, e⟩ := H
  exact ⟨b, ev_neg h hb, e⟩
theorem says_true {P : Prop} (h : P) : Says (fun _ => some true) P := ⟨true, Ev.now _, by simp [h]⟩
theorem says_false {P : Prop} (h : ¬ P) : Says (fun _ => some false) P := ⟨false, Ev.now _, by simp [h]⟩
theorem says_bind {α : Type} {g : Nat → Option α} {f : Nat → α → Option Bool} {a : α} {P : Prop} (h : Ev g a) (H : Says (fun n => f n a) P) : Says (fun n => (g n).bind (f n)) P := by
  obtain ⟨b, hb, e⟩ := H
  exact ⟨b, Ev.bind h hb, e⟩
theorem Says.yes {g : Nat → Option Bool} {P : Prop} (H : Says g P) (h : P) : Ev g true := by
  obtain ⟨b, hb, e⟩ := H
  rw [e.2 h] at hb
  exact hb
theorem Says.no {g : Nat → Option Bool} {P : Prop} (H : Says g P) (h : ¬ P) : Ev g false := by
  obtain ⟨b, hb, e⟩ := H
  cases b with
  | true => exact absurd (e.1 rfl) h
  | false => exact hb
end Go.Proofs.Ytkmpkcofddpdgaa.Q
namespace Go.Proofs.Ytkmpkcofddpdgaa.Q
open Go Go.RowKit
def gok (k p : Int) : Prop := (k = 0 ∧ 1 ≤ p ∧ p ≤ 62) ∨ (k = 1 ∧ 1 ≤ p ∧ p ≤ 31) ∨ (k = 2 ∧ (p = 2 ∨ p = 3 ∨ p = 5 ∨ p = 7))
def gord (k p : Int) : Int := if k = 0 then p else if k = 1 then 2 * p else p * (p - 1)
def gmul (k p x y : Int) : Int :=
  if k = 0 then (x + y) % p
  else if k = 1 then (if x < p then (y / p) % 2 * p + (x + y % p) % p else (1 + y / p) % 2 * p + (x - p - y % p + p) % p)
  else ((x / p + 1) * (y / p + 1) % p - 1) * p + ((x / p + 1) * (y % p) + x % p) % p
theorem div01 {p x : Int} (hp : 0 < p) (h0 : 0 ≤ x) (h1 : x < 2 * p) : (x < p ∧ x / p = 0 ∧ x % p = x) ∨ (p ≤ x ∧ x / p = 1 ∧ x % p = x - p) := by
  by_cases h : x < p
  · exact .inl ⟨h, Int.ediv_eq_zero_of_lt h0 h, Int.emod_eq_of_lt h0 h⟩
  · obtain ⟨a, b⟩ := (Int.ediv_emod_unique (a := x) (b := p) (q := 1) (r := x - p) hp).2 ⟨by omega, by omega, by omega⟩
    exact .inr ⟨by omega, a, b⟩
theorem mulmod {p a c : Int} (hp : p = 2 ∨ p = 3 ∨ p = 5 ∨ p = 7) (a0 : 1 ≤ a) (a1 : a < p) (c0 : 1 ≤ c) (c1 : c < p) : 1 ≤ a * c % p := by
  have ha : a = 1 ∨ a = 2 ∨ a = 3 ∨ a = 4 ∨ a = 5 ∨ a = 6 := by omega
  rcases hp with rfl | rfl | rfl | rfl <;> rcases ha with rfl | rfl | rfl | rfl | rfl | rfl <;> omega
theorem gord_pos {k p : Int} (h : gok k p) : 0 < gord k p ∧ gord k p ≤ 62 := by
  unfold gord
  rcases h with ⟨rfl, a, b⟩ | ⟨rfl, a, b⟩ | ⟨rfl, rfl | rfl | rfl | rfl⟩
  · simp; omega
  · simp; omega
  all_goals simp
theorem gmul_range {k p x y : Int} (h : gok k p) (x0 : 0 ≤ x) (x1 : x < gord k p) (y0 : 0 ≤ y) (y1 : y < gord k p) : 0 ≤ gmul k p x y ∧ gmul k p x y < gord k p := by
  rcases h with ⟨rfl, a, b⟩ | ⟨rfl, a, b⟩ | ⟨rfl, hp⟩
  · simp only [gmul, gord, if_true] at *
    exact ⟨Int.emod_nonneg _ (by omega), Int.emod_lt_of_pos _ (by omega)⟩
  · simp only [gmul, gord, show ¬ (1 : Int) = 0 by decide, if_true, if_false] at *
    have m1 := Int.emod_nonneg (x + y % p) (show p ≠ 0 by omega)
    have m2 := Int.emod_lt_of_pos (x + y % p) (show 0 < p by omega)
    have m3 := Int.emod_nonneg (x - p - y % p + p) (show p ≠ 0 by omega)
    have m4 := Int.emod_lt_of_pos (x - p - y % p + p) (show 0 < p by omega)
    rcases div01 (by omega) y0 y1 with ⟨_, e, _⟩ | ⟨_, e, _⟩ <;> rw [e] <;> split <;> simp only [show (0 : Int) % 2 = 0 by decide, show (1 : Int) % 2 = 1 by decide, show (1 + 0 : Int) % 2 = 1 by decide, show (1 + 1 : Int) % 2 = 0 by decide, Int.zero_mul, Int.one_mul] <;> omega
  · simp only [gmul, gord, show ¬ (2 : Int) = 0 by decide, show ¬ (2 : Int) = 1 by decide, if_false] at *
    have a0 : 1 ≤ x / p + 1 := by rcases hp with rfl | rfl | rfl | rfl <;> omega
    have a1 : x / p + 1 < p := by rcases hp with rfl | rfl | rfl | rfl <;> omega
    have c0 : 1 ≤ y / p + 1 := by rcases hp with rfl | rfl | rfl | rfl <;> omega
    have c1 : y / p + 1 < p := by rcases hp with rfl | rfl | rfl | rfl <;> omega
    have m := mulmod hp a0 a1 c0 c1
    rcases hp with rfl | rfl | rfl | rfl <;> omega
theorem gmul_inv {k p x : Int} (h : gok k p) (x0 : 0 ≤ x) (x1 : x < gord k p) : ∃ y, 0 ≤ y ∧ y < gord k p ∧ gmul k p x y = 0 := by
  rcases h with ⟨rfl, a, b⟩ | ⟨rfl, a, b⟩ | ⟨rfl, hp⟩
  · simp only [gmul, gord, if_true] at *
    by_cases e : x = 0
    · exact ⟨0, by omega, by omega, by subst e; simp⟩
    · exact ⟨p - x, by omega, by omega, by rw [show x + (p - x) = p by omega]; simp⟩
  · simp only [gmul, gord, show ¬ (1 : Int) = 0 by decide, if_true, if_false] at *
    by_cases hx : x < p
    · simp only [hx, if_true]
      by_cases e : x = 0
      · exact ⟨0, by omega, by omega, by subst e; simp⟩
      · refine ⟨p - x, by omega, by omega, ?_⟩
        rcases div01 (p := p) (x := p - x) (by omega) (by omega) (by omega) with ⟨_, e1, e2⟩ | ⟨_, e1, e2⟩
        · rw [e1, e2, show x + (p - x) = p by omega]; simp
        · omega
    · refine ⟨x, x0, x1, ?_⟩
      simp only [hx, if_false]
      rcases div01 (p := p) (x := x) (by omega) (by omega) (by omega) with ⟨_, e1, e2⟩ | ⟨_, e1, e2⟩
      · omega
      · rw [e1, e2, show x - p - (x - p) + p = p by omega]; simp
  · have key : ∀ p ∈ [2, 3, 5, 7], ∀ x < p * (p - 1), ∃ y, y < p * (p - 1) ∧ gmul 2 (p : Nat) (x : Nat) (y : Nat) = 0 := by decide +kernel
    have hq : ∃ q : Nat, p = q ∧ q ∈ [2, 3, 5, 7] := by rcases hp with rfl | rfl | rfl | rfl <;> exact ⟨_, rfl, by decide⟩
    obtain ⟨q, rfl, hq⟩ := hq
    have g : gord 2 (q : Int) = ((q * (q - 1) : Nat) : Int) := by
      simp at hq
      rcases hq with rfl | rfl | rfl | rfl <;> simp [gord]
    rw [g] at x1 ⊢
    obtain ⟨y, hy, e⟩ := key q hq x.toNat (by omega)
    exact ⟨y, by omega, by omega, by rw [← e, Int.toNat_of_nonneg x0]⟩
end Go.Proofs.Ytkmpkcofddpdgaa.Q
namespace Go.Proofs.Ytkmpkcofddpdgaa.Q
open Go Go.RowKit Go.Proofs.Ytkmpkcofddpdgaa.P
theorem s_in (a b c : Int) : spec_l01In.f a b c = some (decide (b ≤ a ∧ a ≤ c)) := by
  unfold spec_l01In.f
  split
  · exact congrArg some (decide_eq_decide.2 (by omega))
  · exact congrArg some (decide_eq_false (by omega)).symm
end Go.Proofs.Ytkmpkcofddpdgaa.Q
namespace Go.Proofs.Ytkmpkcofddpdgaa.Q
open Go Go.RowKit Go.Proofs.Ytkmpkcofddpdgaa.P Go.Proofs.YtkmpkcofddpdgaaW.PrintWords Go.Proofs.YtkmpkcofddpdgaaW.PrintMore
set_option linter.unusedSimpArgs false
instance (k p : Int) : Decidable (gok k p) := by unfold gok; infer_instance
theorem s_prime (q : Int) : spec_l05Prime.f q = some (decide (q = 2 ∨ q = 3 ∨ q = 5 ∨ q = 7)) := by
  unfold spec_l05Prime.f
  repeat' split
  all_goals simp [*]
  all_goals rfl
theorem i_prime (q : Int) : impl_isPrime.f q = some (decide (q = 2 ∨ q = 3 ∨ q = 5 ∨ q = 7)) := by
  unfold impl_isPrime.f
  repeat' split
  all_goals simp [*]
  all_goals rfl
theorem s_group (k p : Int) : spec_l05Is.f k p = some (decide (gok k p)) := by
  unfold spec_l05Is.f
  simp only [s_in, s_prime, Option.bind_some]
  repeat' split
  all_goals first | exact congrArg some (decide_eq_decide.2 (by unfold gok; omega)) | exact congrArg some (decide_eq_false (by unfold gok; omega)).symm
theorem i_group (k p : Int) : impl_IsGroup.f k p = some (decide (gok k p)) := by
  unfold impl_IsGroup.f
  simp only [i_prime, Option.bind_some]
  repeat' split
  all_goals first | exact congrArg some (decide_eq_decide.2 (by unfold gok; omega)) | exact congrArg some (decide_eq_false (by unfold gok; omega)).symm
theorem s_order {k p : Int} (h : gok k p) : spec_l05Order.f k p = some (gord k p) := by
  unfold spec_l05Order.f gord
  rcases h with ⟨rfl, a, b⟩ | ⟨rfl, a, b⟩ | ⟨rfl, rfl | rfl | rfl | rfl⟩
  · rfl
  · simp only [show ¬ (1 : Int) = 0 by decide, if_true, if_false]
    rw [w64 (by omega) (by omega)]
  all_goals (unfold wrap64; decide)
theorem i_order {k p : Int} (h : gok k p) : impl_Group_order.f k p = some (gord k p) := by
  unfold impl_Group_order.f gord
  rcases h with ⟨rfl, a, b⟩ | ⟨rfl, a, b⟩ | ⟨rfl, rfl | rfl | rfl | rfl⟩
  · rfl
  · simp only [show ¬ (1 : Int) = 0 by decide, if_true, if_false]
    rw [w64 (by omega) (by omega)]
  all_goals (unfold wrap64; decide)
theorem wl0 : wrap64 0 = 0 := w64 (by omega) (by omega)
theorem wl1 : wrap64 1 = 1 := w64 (by omega) (by omega)
theorem wl2 : wrap64 (1 + 1) = 2 := w64 (by omega) (by omega)
theorem wl01 : wrap64 (0 + 1) = 1 := w64 (by omega) (by omega)
theorem wl10 : wrap64 (1 + 0) = 1 := w64 (by omega) (by omega)
theorem wl00 : wrap64 (0 + 0) = 0 := w64 (by omega) (by omega)
theorem s_times {k p x y : Int} (h : gok k p) (x0 : 0 ≤ x) (x1 : x < gord k p) (y0 : 0 ≤ y) (y1 : y < gord k p) : spec_l05Times.f k p x y = some (gmul k p x y) := by
  unfold spec_l05Times.f gmul
  rcases h with ⟨rfl, a, b⟩ | ⟨rfl, a, b⟩ | ⟨rfl, hp⟩
  · simp only [gord, if_true] at *
    rw [if_neg (by decide), if_neg (by decide), if_neg (by omega), w64 (by omega) (by omega), Int.tmod_eq_emod_of_nonneg (by omega)]
  · simp only [gord, show ¬ (1 : Int) = 0 by decide, if_true, if_false] at *
    rw [if_neg (show ¬ p = 0 by omega)]
    rw [Int.tdiv_eq_ediv_of_nonneg x0, Int.tdiv_eq_ediv_of_nonneg y0, Int.tmod_eq_emod_of_nonneg x0, Int.tmod_eq_emod_of_nonneg y0]
    have m1 := Int.emod_nonneg (x + y % p) (show p ≠ 0 by omega)
    have m2 := Int.emod_lt_of_pos (x + y % p) (show 0 < p by omega)
    have m3 := Int.emod_nonneg (x - p - y % p + p) (show p ≠ 0 by omega)
    have m4 := Int.emod_lt_of_pos (x - p - y % p + p) (show 0 < p by omega)
    have j0 := Int.emod_nonneg y (show p ≠ 0 by omega)
    have j1 := Int.emod_lt_of_pos y (show 0 < p by omega)
    rcases div01 (by omega) x0 x1 with ⟨h1, e1, f1⟩ | ⟨h1, e1, f1⟩ <;> rcases div01 (by omega) y0 y1 with ⟨h2, e2, f2⟩ | ⟨h2, e2, f2⟩ <;> rw [e1, e2, f1]
    · rw [if_neg (by rw [wl0]; decide), if_pos h1]
      rw [wl0, wl00, show Int.tmod 0 2 = 0 by decide, Int.zero_mul, wl0, w64 (a := x + y % p) (by omega) (by omega), Int.tmod_eq_emod_of_nonneg (by omega), w64 (by omega) (by omega)]
      simp
    · rw [if_neg (by rw [wl0]; decide), if_pos h1]
      rw [wl0, wl1, wl01, show Int.tmod 1 2 = 1 by decide, w64 (a := 1 * p) (by omega) (by omega), w64 (a := x + y % p) (by omega) (by omega), Int.tmod_eq_emod_of_nonneg (by omega), w64 (by omega) (by omega)]
      simp
    · rw [if_pos wl1, if_neg (by omega)]
      rw [wl0, wl1, wl10, show Int.tmod 1 2 = 1 by decide, w64 (a := 1 * p) (by omega) (by omega), w64 (a := p - y % p) (by omega) (by omega), show x - p + (p - y % p) = x - p - y % p + p by omega, w64 (a := x - p - y % p + p) (by omega) (by omega), Int.tmod_eq_emod_of_nonneg (by omega), w64 (by omega) (by omega)]
      simp
    · rw [if_pos wl1, if_neg (by omega)]
      rw [wl1, wl2, show Int.tmod 2 2 = 0 by decide, Int.zero_mul, wl0, w64 (a := p - y % p) (by omega) (by omega), show x - p + (p - y % p) = x - p - y % p + p by omega, w64 (a := x - p - y % p + p) (by omega) (by omega), Int.tmod_eq_emod_of_nonneg (by omega), w64 (by omega) (by omega)]
      simp
  · simp only [gord, show ¬ (2 : Int) = 0 by decide, show ¬ (2 : Int) = 1 by decide, if_false, if_true] at *
    rw [if_neg (show ¬ p = 0 by omega)]
    rw [Int.tdiv_eq_ediv_of_nonneg x0, Int.tdiv_eq_ediv_of_nonneg y0, Int.tmod_eq_emod_of_nonneg x0, Int.tmod_eq_emod_of_nonneg y0]
    have a0 : 0 ≤ x / p ∧ x / p ≤ 5 := by rcases hp with rfl | rfl | rfl | rfl <;> omega
    have c0 : 0 ≤ y / p ∧ y / p ≤ 5 := by rcases hp with rfl | rfl | rfl | rfl <;> omega
    have b0 := Int.emod_nonneg x (show p ≠ 0 by omega)
    have b1 := Int.emod_lt_of_pos x (show 0 < p by omega)
    have d0 := Int.emod_nonneg y (show p ≠ 0 by omega)
    have d1 := Int.emod_lt_of_pos y (show 0 < p by omega)
    have p7 : p ≤ 7 ∧ 0 < p := by omega
    have ac0 : 0 ≤ (x / p + 1) * (y / p + 1) := Int.mul_nonneg (by omega) (by omega)
    have ac1 : (x / p + 1) * (y / p + 1) ≤ 6 * 6 := Int.mul_le_mul (by omega) (by omega) (by omega) (by omega)
    have ad0 : 0 ≤ (x / p + 1) * (y % p) := Int.mul_nonneg (by omega) (by omega)
    have ad1 : (x / p + 1) * (y % p) ≤ 6 * 7 := Int.mul_le_mul (by omega) (by omega) (by omega) (by omega)
    have m0 := Int.emod_nonneg ((x / p + 1) * (y / p + 1)) (show p ≠ 0 by omega)
    have m1 := Int.emod_lt_of_pos ((x / p + 1) * (y / p + 1)) (show 0 < p by omega)
    have n0 := Int.emod_nonneg ((x / p + 1) * (y % p) + x % p) (show p ≠ 0 by omega)
    have n1 := Int.emod_lt_of_pos ((x / p + 1) * (y % p) + x % p) (show 0 < p by omega)
    have q0 : ((x / p + 1) * (y / p + 1) % p - 1) * p ≤ 6 * 7 := by rcases hp with rfl | rfl | rfl | rfl <;> omega
    have q1 : -7 ≤ ((x / p + 1) * (y / p + 1) % p - 1) * p := by rcases hp with rfl | rfl | rfl | rfl <;> omega
    rw [w64 (a := x / p) (by omega) (by omega), w64 (a := y / p) (by omega) (by omega), w64 (a := x / p + 1) (by omega) (by omega), w64 (a := y / p + 1) (by omega) (by omega), w64 (a := (x / p + 1) * (y / p + 1)) (by omega) (by omega), w64 (a := (x / p + 1) * (y % p)) (by omega) (by omega), w64 (a := (x / p + 1) * (y % p) + x % p) (by omega) (by omega)]
    rw [Int.tmod_eq_emod_of_nonneg ac0, Int.tmod_eq_emod_of_nonneg (show 0 ≤ (x / p + 1) * (y % p) + x % p by omega)]
    rw [w64 (a := (x / p + 1) * (y / p + 1) % p - 1) (by omega) (by omega), w64 (a := ((x / p + 1) * (y / p + 1) % p - 1) * p) (by omega) (by omega), w64 (by omega) (by omega)]
theorem i_product {k p x y : Int} (h : gok k p) (x0 : 0 ≤ x) (x1 : x < gord k p) (y0 : 0 ≤ y) (y1 : y < gord k p) : impl_Group_product.f k p x y = some (gmul k p x y) := by
  rw [← s_times h x0 x1 y0 y1]
  unfold impl_Group_product.f spec_l05Times.f
  rcases h with ⟨rfl, a, b⟩ | ⟨rfl, a, b⟩ | ⟨rfl, hp⟩
  · rfl
  · simp only [gord, show ¬ (1 : Int) = 0 by decide, if_true, if_false] at *
    simp only [show ¬ p = 0 by omega, if_false]
    rw [Int.tdiv_eq_ediv_of_nonneg x0, Int.tdiv_eq_ediv_of_nonneg y0, Int.tmod_eq_emod_of_nonneg x0, Int.tmod_eq_emod_of_nonneg y0]
    have j0 := Int.emod_nonneg y (show p ≠ 0 by omega)
    have j1 := Int.emod_lt_of_pos y (show 0 < p by omega)
    rcases div01 (by omega) x0 x1 with ⟨h1, e1, f1⟩ | ⟨h1, e1, f1⟩ <;> rw [e1, f1]
    · rw [if_pos h1, if_neg (by rw [wl0]; decide)]
    · rw [if_neg (by omega), if_pos wl1]
      rw [w64 (a := p - y % p) (by omega) (by omega), w64 (a := x - p - y % p) (by omega) (by omega), show x - p + (p - y % p) = x - p - y % p + p by omega]
  · simp only [show ¬ (2 : Int) = 0 by decide, show ¬ (2 : Int) = 1 by decide, if_false, if_true]
def gcode (k p : Int) (l : List Int) : Int := if gok k p then (if ∀ x ∈ l, 0 ≤ x ∧ x < gord k p then 0 else 2) else 1
theorem dropcons (l : List Int) (i : Int) (h0 : 0 ≤ i) (h1 : i < l.length) : l.drop i.toNat = rd l i :: l.drop (i + 1).toNat := by
  rw [List.drop_eq_getElem_cons (by omega : i.toNat < l.length), show (i + 1).toNat = i.toNat + 1 by omega]
  simp [rd, List.getD_eq_getElem?_getD, List.getElem?_eq_getElem (show i.toNat < l.length by omega)]
theorem s_elems_l0 {k p : Int} (h : gok k p) (l : List Int) (hl : l.length < 9223372036854775807) (d : Nat) : ∀ i : Int, 0 ≤ i → i ≤ l.length → l.length - i = d →
    Ev (fun K => spec_l05Elements.l0 K l i k p) (if ∀ x ∈ l.drop i.toNat, 0 ≤ x ∧ x < gord k p then 0 else 2) := by
  have ho := gord_pos h
  induction d with
  | zero =>
    intro i h0 h1 hd
    rw [List.drop_of_length_le (by omega)]
    refine ev_k ?_
    simp only [spec_l05Elements.l0]
    exact ev_neg (by omega) (ev_some (by simp))
  | succ d ih =>
    intro i h0 h1 hd
    rw [dropcons l i h0 (by omega)]
    have ih := ih (i + 1) (by omega) (by omega) (by omega)
    refine ev_k ?_
    simp only [spec_l05Elements.l0, s_order h, s_in, Option.bind_some]
    refine ev_pos (by omega) (ev_pos h0 ?_)
    rw [w64 (a := gord k p - 1) (by omega) (by omega), w64 (a := i + 1) (by omega) (by omega)]
    by_cases hc : 0 ≤ rd l i ∧ rd l i ≤ gord k p - 1
    · refine ev_pos (decide_eq_true hc) ?_
      have e : (∀ x ∈ rd l i :: l.drop (i + 1).toNat, 0 ≤ x ∧ x < gord k p) ↔ ∀ x ∈ l.drop (i + 1).toNat, 0 ≤ x ∧ x < gord k p := by
        rw [List.forall_mem_cons]
        exact ⟨fun z => z.2, fun z => ⟨by omega, z⟩⟩
      simp only [e]
      exact ih
    · refine ev_neg (by simpa using hc) (ev_some ?_)
      rw [if_neg]
      rw [List.forall_mem_cons]
      exact fun z => hc (by omega)
theorem s_elems (k p : Int) (l : List Int) (hl : l.length < 9223372036854775807) : Ev (fun K => spec_l05Elements.f K k p l) (gcode k p l) := by
  unfold spec_l05Elements.f gcode
  rw [s_group]
  simp only [Option.bind_some]
  by_cases h : gok k p
  · rw [if_pos h]
    exact ev_pos (decide_eq_true h) (by simpa using s_elems_l0 h l hl l.length 0 (by omega) (by omega) (by omega))
  · rw [if_neg h]
    exact ev_neg (by simpa using h) (ev_some rfl)
theorem i_code_l0 {k p : Int} (h : gok k p) (l : List Int) (hl : l.length < 9223372036854775807) (d : Nat) : ∀ i : Int, 0 ≤ i → i ≤ l.length → l.length - i = d →
    Ev (fun K => impl_groupCode.l0 K l l.length i k p) (if ∀ x ∈ l.drop i.toNat, 0 ≤ x ∧ x < gord k p then 0 else 2) := by
  induction d with
  | zero =>
    intro i h0 h1 hd
    rw [List.drop_of_length_le (by omega)]
    refine ev_k ?_
    simp only [impl_groupCode.l0]
    exact ev_neg (by omega) (ev_some (by simp))
  | succ d ih =>
    intro i h0 h1 hd
    rw [dropcons l i h0 (by omega)]
    have ih := ih (i + 1) (by omega) (by omega) (by omega)
    refine ev_k ?_
    simp only [impl_groupCode.l0, i_order h, Option.bind_some]
    refine ev_pos (by omega) (ev_pos h0 (ev_pos (by omega) ?_))
    rw [w64 (a := i + 1) (by omega) (by omega)]
    by_cases hc : rd l i < 0
    · refine ev_pos hc (ev_some ?_)
      rw [if_neg]
      rw [List.forall_mem_cons]
      exact fun z => by omega
    · refine ev_neg hc ?_
      by_cases hd : rd l i ≥ gord k p
      · refine ev_pos hd (ev_some ?_)
        rw [if_neg]
        rw [List.forall_mem_cons]
        exact fun z => by omega
      · refine ev_neg hd ?_
        have e : (∀ x ∈ rd l i :: l.drop (i + 1).toNat, 0 ≤ x ∧ x < gord k p) ↔ ∀ x ∈ l.drop (i + 1).toNat, 0 ≤ x ∧ x < gord k p := by
          rw [List.forall_mem_cons]
          exact ⟨fun z => z.2, fun z => ⟨by omega, z⟩⟩
        simp only [e]
        exact ih
theorem i_code (k p : Int) (l : List Int) (hl : l.length < 9223372036854775807) : Ev (fun K => impl_groupCode.f K k p l) (gcode k p l) := by
  unfold impl_groupCode.f gcode
  rw [i_group]
  simp only [Option.bind_some]
  by_cases h : gok k p
  · rw [if_pos h]
    exact ev_pos (decide_eq_true h) (by simpa using i_code_l0 h l hl l.length 0 (by omega) (by omega) (by omega))
  · rw [if_neg h]
    exact ev_neg (by simpa using h) (ev_some rfl)
theorem gcode_zero {k p : Int} {l : List Int} (h : gcode k p l = 0) : gok k p ∧ ∀ x ∈ l, 0 ≤ x ∧ x < gord k p := by
  unfold gcode at h
  split at h
  · rename_i hg
    split at h
    · rename_i hl
      exact ⟨hg, hl⟩
    · omega
  · omega
end Go.Proofs.Ytkmpkcofddpdgaa.Q
namespace Go.Proofs.Ytkmpkcofddpdgaa.Q
open Go Go.RowKit Go.Proofs.Ytkmpkcofddpdgaa.P Go.Proofs.YtkmpkcofddpdgaaW.PrintWords Go.Proofs.YtkmpkcofddpdgaaW.PrintMore
theorem inv_from {k p x : Int} (hg : gok k p) (x0 : 0 ≤ x) (x1 : x < gord k p) (z : Int) (z1 : z < gord k p) (hz : gmul k p x z = 0) (d : Nat) : ∀ y : Int, 0 ≤ y → y ≤ z → z - y = d →
    ∃ r, (0 ≤ r ∧ r < gord k p) ∧ gmul k p x r = 0 ∧ (∀ q, y ≤ q → q < r → gmul k p x q ≠ 0) ∧ Ev (fun n => spec_l05Inverse.l0 n x y k p) r ∧ Ev (fun n => impl_Group_inverse.l0 n x y k p) r := by
  have ho := gord_pos hg
  induction d with
  | zero =>
    intro y y0 y1 hd
    obtain rfl : y = z := by omega
    refine ⟨y, ⟨y0, z1⟩, hz, fun q _ _ => by omega, ?_, ?_⟩
    · refine ev_k ?_
      simp only [spec_l05Inverse.l0, s_times hg x0 x1 y0 z1, Option.bind_some]
      exact ev_pos hz (Ev.now _)
    · refine ev_k ?_
      simp only [impl_Group_inverse.l0, i_product hg x0 x1 y0 z1, Option.bind_some]
      exact ev_pos hz (Ev.now _)
  | succ d ih =>
    intro y y0 y1 hd
    by_cases hy : gmul k p x y = 0
    · refine ⟨y, ⟨y0, by omega⟩, hy, fun q _ _ => by omega, ?_, ?_⟩
      · refine ev_k ?_
        simp only [spec_l05Inverse.l0, s_times hg x0 x1 y0 (show y < gord k p by omega), Option.bind_some]
        exact ev_pos hy (Ev.now _)
      · refine ev_k ?_
        simp only [impl_Group_inverse.l0, i_product hg x0 x1 y0 (show y < gord k p by omega), Option.bind_some]
        exact ev_pos hy (Ev.now _)
    · obtain ⟨r, r01, rz, rm, hs, hi⟩ := ih (y + 1) (by omega) (by omega) (by omega)
      refine ⟨r, r01, rz, fun q q0 q1 => if e : q = y then by rw [e]; exact hy else rm q (by omega) q1, ?_, ?_⟩
      · refine ev_k ?_
        simp only [spec_l05Inverse.l0, s_times hg x0 x1 y0 (show y < gord k p by omega), Option.bind_some]
        refine ev_neg hy ?_
        rw [w64 (a := y + 1) (by omega) (by omega)]
        exact hs
      · refine ev_k ?_
        simp only [impl_Group_inverse.l0, i_product hg x0 x1 y0 (show y < gord k p by omega), Option.bind_some]
        refine ev_neg hy ?_
        rw [w64 (a := y + 1) (by omega) (by omega)]
        exact hi
theorem inverses {k p x : Int} (hg : gok k p) (x0 : 0 ≤ x) (x1 : x < gord k p) :
    ∃ r, (0 ≤ r ∧ r < gord k p) ∧ gmul k p x r = 0 ∧ (∀ q, 0 ≤ q → q < r → gmul k p x q ≠ 0) ∧ Ev (fun n => spec_l05Inverse.f n k p x) r ∧ Ev (fun n => impl_Group_inverse.f n k p x) r := by
  obtain ⟨z, z0, z1, hz⟩ := gmul_inv hg x0 x1
  unfold spec_l05Inverse.f impl_Group_inverse.f
  exact inv_from hg x0 x1 z z1 hz z.toNat 0 (by omega) z0 (by omega)
end Go.Proofs.Ytkmpkcofddpdgaa.Q
namespace Go.Proofs.Ytkmpkcofddpdgaa.Q
open Go Go.RowKit Go.Proofs.YtkmpkcofddpdgaaW.PrintWords Go.Proofs.YtkmpkcofddpdgaaW.PrintLast Go.Proofs.YtkmpkcofddpdgaaW.PrintMore
def tb (x i : Int) : Bool := decide (x / 2 ^ i.toNat % 2 = 1)
theorem wu64 {a : Int} (h0 : 0 ≤ a) (h1 : a < 18446744073709551616) : IntKind.u64.wrap a = a := by
  simp [IntKind.wrap, IntKind.bits, IntKind.signed]
  omega
theorem w64' (a : Int) : IntKind.i64.wrap a = wrap64 a := by
  rw [IntKind.wrap_i64]
  unfold wrap64
  rfl
theorem two_pow_le {n : Int} (h0 : 0 ≤ n) (h1 : n ≤ 62) : (1 : Int) ≤ 2 ^ n.toNat ∧ (2 : Int) ^ n.toNat ≤ 4611686018427387904 := by
  have e : ((2 : Int) ^ n.toNat) = ((2 ^ n.toNat : Nat) : Int) := by simp
  have a : 2 ^ n.toNat ≤ 2 ^ 62 := Nat.pow_le_pow_right (by decide) (by omega)
  have b : 1 ≤ 2 ^ n.toNat := Nat.one_le_two_pow
  rw [e]
  omega
theorem shl_one {n : Int} (h0 : 0 ≤ n) (h1 : n ≤ 62) : shl .i64 1 n = 2 ^ n.toNat := by
  have := two_pow_le h0 h1
  unfold shl
  rw [Nat.min_eq_left (by simp [IntKind.bits]; omega), Int.one_mul, w64', w64] <;> omega
theorem tb_nat (x i : Nat) : tb (x : Int) (i : Int) = x.testBit i := by
  unfold tb
  rw [Nat.testBit_eq_decide_div_mod_eq]
  have : ((x : Int) / 2 ^ i) % 2 = ((x / 2 ^ i % 2 : Nat) : Int) := by simp
  rw [Int.toNat_natCast, this]
  exact decide_eq_decide.2 (by omega)
theorem or_nat (a b : Nat) (ha : a < 2 ^ 63) (hb : b < 2 ^ 63) : bits .or .i64 a b = ((a ||| b : Nat) : Int) :=
  (bits_nat .i64 63 (by decide) (fun n h0 h1 => by rw [w64', w64] <;> omega) a b ha hb).2
end Go.Proofs.Ytkmpkcofddpdgaa.Q
namespace Go.Proofs.Ytkmpkcofddpdgaa.Q
open Go Go.RowKit Go.Proofs.YtkmpkcofddpdgaaW.PrintWords
end Go.Proofs.Ytkmpkcofddpdgaa.Q
namespace Go.Proofs.Ytkmpkcofddpdgaa.Q
open Go Go.RowKit Go.Proofs.YtkmpkcofddpdgaaW.PrintWords Go.Proofs.YtkmpkcofddpdgaaW.PrintMore
def Mx (n : Int) (l : List Int) (P : Int → Int → Prop) : Prop := (l.length : Int) = n ∧ ∀ v, 0 ≤ v → v < n → (0 ≤ rd l v ∧ rd l v < 2 ^ n.toNat) ∧ ∀ w, 0 ≤ w → w < n → (tb (rd l v) w = true ↔ P v w)
theorem Mx.imp {n : Int} {l : List Int} {P Q : Int → Int → Prop} (h : Mx n l P) (e : ∀ v w, 0 ≤ v → v < n → 0 ≤ w → w < n → (P v w ↔ Q v w)) : Mx n l Q :=
  ⟨h.1, fun v v0 v1 => ⟨(h.2 v v0 v1).1, fun w w0 w1 => ((h.2 v v0 v1).2 w w0 w1).trans (e v w v0 v1 w0 w1)⟩⟩
theorem rd_ext {a b : List Int} (hl : a.length = b.length) (h : ∀ v : Int, 0 ≤ v → v < a.length → rd a v = rd b v) : a = b := by
  refine List.ext_getElem hl fun i h1 h2 => ?_
  have := h i (by omega) (by omega)
  simpa [rd, List.getD_eq_getElem?_getD, h1, h2] using this
theorem Mx.zero (n : Int) (n0 : 0 ≤ n) : Mx n (List.replicate n.toNat 0) (fun _ _ => False) := by
  refine ⟨by simp; omega, fun v v0 v1 => ?_⟩
  have e : rd (List.replicate n.toNat 0) v = 0 := by
    have : v.toNat < n.toNat := by omega
    simp [rd, List.getD_eq_getElem?_getD, this]
  rw [e]
  have p : (0 : Int) < 2 ^ n.toNat := Int.pow_pos (by decide)
  refine ⟨⟨by omega, p⟩, fun w w0 w1 => ?_⟩
  simp [tb]
theorem rd_set {l : List Int} {i j : Int} (x : Int) (i0 : 0 ≤ i) (i1 : i < l.length) (j0 : 0 ≤ j) : rd (l.set i.toNat x) j = if j = i then x else rd l j := by
  simp only [rd, List.getD_eq_getElem?_getD, List.getElem?_set]
  by_cases h : j = i
  · subst h
    rw [if_pos rfl, if_pos rfl, if_pos (by omega)]
    rfl
  · rw [if_neg h, if_neg (by omega)]
theorem or_one {n x j : Int} (n2 : n ≤ 62) (x0 : 0 ≤ x) (x1 : x < 2 ^ n.toNat) (j0 : 0 ≤ j) (j1 : j < n) : (0 ≤ bits .or .i64 x (shl .i64 1 j) ∧ bits .or .i64 x (shl .i64 1 j) < 2 ^ n.toNat) ∧ ∀ w, 0 ≤ w → (tb (bits .or .i64 x (shl .i64 1 j)) w = true ↔ tb x w = true ∨ w = j) := by
  have e : ((2 : Int) ^ n.toNat) = ((2 ^ n.toNat : Nat) : Int) := by simp
  have p : 2 ^ n.toNat ≤ 2 ^ 62 := Nat.pow_le_pow_right (by decide) (by omega)
  have q : 2 ^ j.toNat < 2 ^ n.toNat := Nat.pow_lt_pow_right (by decide) (by omega)
  rw [e] at x1 ⊢
  obtain ⟨y, rfl⟩ := Int.eq_ofNat_of_zero_le x0
  rw [shl_one j0 (by omega), show ((2 : Int) ^ j.toNat) = ((2 ^ j.toNat : Nat) : Int) by simp, or_nat y (2 ^ j.toNat) (by omega) (by omega)]
  refine ⟨⟨by omega, ?_⟩, fun w w0 => ?_⟩
  · have := Nat.or_lt_two_pow (show y < 2 ^ n.toNat by omega) q
    omega
  · obtain ⟨w, rfl⟩ := Int.eq_ofNat_of_zero_le w0
    rw [tb_nat, tb_nat, Nat.testBit_or, Nat.testBit_two_pow]
    simp only [Bool.or_eq_true, decide_eq_true_eq]
    refine or_congr Iff.rfl ?_
    omega
theorem Mx.or {n : Int} {l : List Int} {P : Int → Int → Prop} (h : Mx n l P) (n2 : n ≤ 62) {i j : Int} (i0 : 0 ≤ i) (i1 : i < n) (j0 : 0 ≤ j) (j1 : j < n) : Mx n (l.set i.toNat (bits .or .i64 (rd l i) (shl .i64 1 j))) (fun v w => P v w ∨ (v = i ∧ w = j)) := by
  refine ⟨by simpa using h.1, fun v v0 v1 => ?_⟩
  rw [rd_set _ i0 (by have := h.1; omega) v0]
  obtain ⟨⟨a0, a1⟩, a2⟩ := h.2 v v0 v1
  by_cases hv : v = i
  · rw [if_pos hv]
    subst hv
    obtain ⟨b, b2⟩ := or_one n2 a0 a1 j0 j1
    exact ⟨b, fun w w0 w1 => (b2 w w0).trans (or_congr (a2 w w0 w1) (by simp))⟩
  · rw [if_neg hv]
    exact ⟨⟨a0, a1⟩, fun w w0 w1 => (a2 w w0 w1).trans (by simp [hv])⟩
end Go.Proofs.Ytkmpkcofddpdgaa.Q
namespace Go.Proofs.Ytkmpkcofddpdgaa.Q
open Go Go.RowKit Go.Proofs.Ytkmpkcofddpdgaa.P Go.Proofs.YtkmpkcofddpdgaaW.PrintWords Go.Proofs.YtkmpkcofddpdgaaW.PrintMore
theorem r_index (l : List Int) (hl : l.length ≤ 1152921504606846976) (x : Int) (d : Nat) : ∀ i : Int, 0 ≤ i → i ≤ l.length → l.length - i = d → ∃ r, Ev (fun k => slices_Index_int64_int64.l0 k l x l.length i) r ∧ (0 ≤ r ↔ ∃ j : Int, i ≤ j ∧ j < l.length ∧ rd l j = x) := by
  induction d with
  | zero =>
    intro i i0 i1 hd
    refine ⟨-1, ev_k ?_, fun z => by omega, fun ⟨j, a, b, _⟩ => by omega⟩
    simp only [slices_Index_int64_int64.l0]
    exact ev_neg (by omega) (Ev.now _)
  | succ d ih =>
    intro i i0 i1 hd
    by_cases h : x = rd l i
    · refine ⟨i, ev_k ?_, fun _ => ⟨i, by omega, by omega, h.symm⟩, fun _ => i0⟩
      simp only [slices_Index_int64_int64.l0]
      exact ev_pos (by omega) (ev_pos i0 (ev_pos (by omega) (ev_pos h (Ev.now _))))
    · obtain ⟨r, hr, e⟩ := ih (i + 1) (by omega) (by omega) (by omega)
      refine ⟨r, ev_k ?_, e.trans ⟨fun ⟨j, a, b, c⟩ => ⟨j, by omega, b, c⟩, fun ⟨j, a, b, c⟩ => ⟨j, by
        by_cases z : j = i
        · rw [z] at c; exact absurd c.symm h
        · omega, b, c⟩⟩⟩
      simp only [slices_Index_int64_int64.l0]
      rw [w64 (a := i + 1) (by omega) (by omega)]
      exact ev_pos (by omega) (ev_pos i0 (ev_pos (by omega) (ev_neg h hr)))
theorem r_contains (l : List Int) (hl : l.length ≤ 1152921504606846976) (x : Int) : ∃ b : Bool, Ev (fun k => slices_Contains_int64_int64.f k l x) b ∧ (b = true ↔ ∃ j : Int, 0 ≤ j ∧ j < l.length ∧ rd l j = x) := by
  obtain ⟨r, hr, e⟩ := r_index l hl x l.length 0 (by omega) (by omega) (by omega)
  refine ⟨decide (r ≥ 0), ?_, by rw [decide_eq_true_iff]; exact e⟩
  unfold slices_Contains_int64_int64.f slices_Index_int64_int64.f
  exact Ev.bind hr (Ev.now _)
theorem rd_getElem {l : List Int} {i : Int} (h : i.toNat < l.length) : rd l i = l[i.toNat] := by
  simp only [rd, List.getD_eq_getElem?_getD, List.getElem?_eq_getElem h]
  rfl
theorem rd_mem' {q : List Int} {i : Int} (i0 : 0 ≤ i) (i1 : i < q.length) : rd q i ∈ q := by
  have hu : i.toNat < q.length := by omega
  have : rd q i = q[i.toNat] := by simp [rd, List.getD_eq_getElem?_getD, List.getElem?_eq_getElem hu]
  rw [this]
  exact List.getElem_mem _
theorem mem_rd' {q : List Int} {u : Int} (h : u ∈ q) : ∃ i : Int, (0 ≤ i ∧ i < q.length) ∧ rd q i = u := by
  obtain ⟨i, hi, rfl⟩ := List.getElem_of_mem h
  exact ⟨i, by omega, by simp [rd, List.getD_eq_getElem?_getD, List.getElem?_eq_getElem hi]⟩
theorem r_mem (l : List Int) (hl : l.length ≤ 1152921504606846976) (x : Int) : Says (fun k => slices_Contains_int64_int64.f k l x) (x ∈ l) := by
  obtain ⟨b, hb, e⟩ := r_contains l hl x
  exact ⟨b, hb, e.trans ⟨fun ⟨j, a, c, d⟩ => by rw [← d]; exact rd_mem' a c, fun h => by obtain ⟨i, hi, e⟩ := mem_rd' h; exact ⟨i, hi.1, hi.2, e⟩⟩⟩
end Go.Proofs.Ytkmpkcofddpdgaa.Q
namespace Go.Proofs.Ytkmpkcofddpdgaa.Q
open Go Go.RowKit Go.Proofs.Ytkmpkcofddpdgaa.P Go.Proofs.YtkmpkcofddpdgaaW.PrintWords Go.Proofs.YtkmpkcofddpdgaaW.PrintMore
open Classical in
noncomputable def ginv (k p x : Int) : Int := if h : gok k p ∧ 0 ≤ x ∧ x < gord k p then (inverses h.1 h.2.1 h.2.2).choose else 0
theorem ginv_spec {k p x : Int} (hg : gok k p) (x0 : 0 ≤ x) (x1 : x < gord k p) : (0 ≤ ginv k p x ∧ ginv k p x < gord k p) ∧ gmul k p x (ginv k p x) = 0 ∧ (∀ q, 0 ≤ q → q < ginv k p x → gmul k p x q ≠ 0) ∧ Ev (fun n => spec_l05Inverse.f n k p x) (ginv k p x) ∧ Ev (fun n => impl_Group_inverse.f n k p x) (ginv k p x) := by
  unfold ginv
  rw [dif_pos ⟨hg, x0, x1⟩]
  exact (inverses hg x0 x1).choose_spec
theorem gmul_unit {k p x : Int} (h : gok k p) (x0 : 0 ≤ x) (x1 : x < gord k p) : gmul k p x 0 = x := by
  rcases h with ⟨rfl, a, b⟩ | ⟨rfl, a, b⟩ | ⟨rfl, hp⟩
  · simp only [gmul, gord, if_true] at *
    rw [Int.add_zero, Int.emod_eq_of_lt x0 x1]
  · simp only [gmul, gord, show ¬ (1 : Int) = 0 by decide, if_true, if_false, Int.zero_ediv, Int.zero_emod] at *
    by_cases hx : x < p
    · rw [if_pos hx]
      simp [Int.emod_eq_of_lt x0 hx]
    · rw [if_neg hx, show x - p - 0 + p = x - p + p by omega]
      rw [show (1 + 0 : Int) % 2 = 1 by decide, Int.add_emod_right, Int.emod_eq_of_lt (by omega) (by omega)]
      omega
  · have key : ∀ p ∈ [2, 3, 5, 7], ∀ x < p * (p - 1), gmul 2 (p : Nat) (x : Nat) 0 = (x : Nat) := by decide +kernel
    have hq : ∃ q : Nat, p = q ∧ q ∈ [2, 3, 5, 7] := by rcases hp with rfl | rfl | rfl | rfl <;> exact ⟨_, rfl, by decide⟩
    obtain ⟨q, rfl, hq⟩ := hq
    have g : gord 2 (q : Int) = ((q * (q - 1) : Nat) : Int) := by
      simp at hq
      rcases hq with rfl | rfl | rfl | rfl <;> simp [gord]
    rw [g] at x1
    have := key q hq x.toNat (by omega)
    rwa [Int.toNat_of_nonneg x0] at this
theorem ginv_ne {k p x : Int} (hg : gok k p) (x0 : 0 ≤ x) (x1 : x < gord k p) (hx : x ≠ 0) : ginv k p x ≠ 0 := by
  intro e
  have := (ginv_spec hg x0 x1).2.1
  rw [e, gmul_unit hg x0 x1] at this
  exact hx this
theorem asc_ext : ∀ (a b : List Int), a.Pairwise (· < ·) → b.Pairwise (· < ·) → (∀ x, x ∈ a ↔ x ∈ b) → a = b := by
  intro a
  induction a with
  | nil =>
    intro b _ _ h
    cases b with
    | nil => rfl
    | cons y b => exact absurd ((h y).2 (by simp)) (by simp)
  | cons x a ih =>
    intro b ha hb h
    cases b with
    | nil => exact absurd ((h x).1 (by simp)) (by simp)
    | cons y b =>
      rw [List.pairwise_cons] at ha hb
      have e : x = y := by
        rcases List.mem_cons.1 ((h x).1 (by simp)) with z | z
        · exact z
        · rcases List.mem_cons.1 ((h y).2 (by simp)) with w | w
          · exact w.symm
          · have := hb.1 x z
            have := ha.1 y w
            omega
      subst e
      rw [ih b ha.2 hb.2 fun z => ?_]
      constructor
      · intro hz
        rcases List.mem_cons.1 ((h z).1 (List.mem_cons_of_mem _ hz)) with w | w
        · have := ha.1 z hz
          omega
        · exact w
      · intro hz
        rcases List.mem_cons.1 ((h z).2 (List.mem_cons_of_mem _ hz)) with w | w
        · have := hb.1 z hz
          omega
        · exact w
def picked (g : List Bool) : Nat → Nat → List Int
  | 0, _ => []
  | d + 1, m => if rdOf false g (m : Int) = true then (m : Int) :: picked g d (m + 1) else picked g d (m + 1)
theorem picked_mem (g : List Bool) (d : Nat) : ∀ m (x : Int), x ∈ picked g d m ↔ ((m : Int) ≤ x ∧ x < (m : Int) + d) ∧ rdOf false g x = true := by
  induction d with
  | zero => intro m x; simp [picked]; omega
  | succ d ih =>
    intro m x
    have e : (((m : Int) ≤ x ∧ x < (m : Int) + (d + 1 : Nat)) ∧ rdOf false g x = true) ↔ (x = m ∧ rdOf false g x = true) ∨ ((((m + 1 : Nat) : Int) ≤ x ∧ x < ((m + 1 : Nat) : Int) + d) ∧ rdOf false g x = true) := by
      constructor
      · rintro ⟨a, b⟩
        by_cases z : x = m
        · exact .inl ⟨z, b⟩
        · exact .inr ⟨by omega, b⟩
      · rintro (⟨a, b⟩ | ⟨a, b⟩)
        · exact ⟨by omega, b⟩
        · exact ⟨by omega, b⟩
    rw [e, ← ih]
    simp only [picked]
    by_cases h : rdOf false g (m : Int) = true
    · rw [if_pos h, List.mem_cons]
      exact or_congr ⟨fun z => ⟨z, by rw [z]; exact h⟩, fun z => z.1⟩ Iff.rfl
    · rw [if_neg h]
      exact ⟨.inr, fun z => z.elim (fun w => absurd (by rw [← w.1]; exact w.2) h) id⟩
theorem picked_asc (g : List Bool) (d : Nat) : ∀ m, (picked g d m).Pairwise (· < ·) := by
  induction d with
  | zero => intro m; exact List.Pairwise.nil
  | succ d ih =>
    intro m
    simp only [picked]
    split
    · refine List.pairwise_cons.2 ⟨fun x hx => ?_, ih (m + 1)⟩
      have := (picked_mem g d (m + 1) x).1 hx
      omega
    · exact ih (m + 1)
theorem picked_length (g : List Bool) (d : Nat) : ∀ m, (picked g d m).length ≤ d := by
  induction d with
  | zero => intro m; simp [picked]
  | succ d ih =>
    intro m
    simp only [picked]
    have := ih (m + 1)
    split <;> simp <;> omega
theorem rdOf_set {l : List Bool} {i j : Int} (x : Bool) (i0 : 0 ≤ i) (i1 : i < l.length) (j0 : 0 ≤ j) : rdOf false (l.set i.toNat x) j = if j = i then x else rdOf false l j := by
  simp only [rdOf, List.getD_eq_getElem?_getD, List.getElem?_set]
  by_cases h : j = i
  · subst h
    rw [if_pos rfl, if_pos rfl, if_pos (by omega)]
    rfl
  · rw [if_neg h, if_neg (by omega)]
theorem l_at (l : List Int) {i : Int} (i0 : 0 ≤ i) (i1 : i < l.length) : rd l i ∈ l := by
  have hu : i.toNat < l.length := by omega
  have : rd l i = l[i.toNat] := by simp [rd, List.getD_eq_getElem?_getD, List.getElem?_eq_getElem hu]
  rw [this]
  exact List.getElem_mem _
section
variable {k p : Int} (hg : gok k p) (l : List Int) (hl : l.length ≤ 1048576) (hm : ∀ x ∈ l, 0 ≤ x ∧ x < gord k p)
include hg hl hm
theorem s_closed : ∃ c : List Int, Ev (fun m => spec_l05Closed.f m k p l) c ∧ c.Pairwise (· < ·) ∧ c.length ≤ 62 ∧ ∀ x, x ∈ c ↔ (1 ≤ x ∧ x < gord k p) ∧ ∃ a ∈ l, x = a ∨ x = ginv k p a := by
  have ho := gord_pos hg
  have collect : ∀ (g : List Bool), (g.length : Int) = gord k p → ∀ (d : Nat) (i : Nat) (acc : List Int), 1 ≤ i → (i : Int) ≤ gord k p → gord k p - i = d → acc.length ≤ i → Ev (fun m => spec_l05Closed.l1 m g acc i) (acc ++ picked g d i) := by
    intro g hgl d
    induction d with
    | zero =>
      intro i acc i1 i2 hd ha
      refine ev_k ?_
      simp only [spec_l05Closed.l1, picked, List.append_nil]
      exact ev_neg (by omega) (Ev.now _)
    | succ d ih =>
      intro i acc i1 i2 hd ha
      refine ev_k ?_
      simp only [spec_l05Closed.l1, picked]
      rw [w64 (a := (i : Int) + 1) (by omega) (by omega)]
      refine ev_pos (by omega) (ev_pos (by omega) ?_)
      by_cases h : rdOf false g (i : Int) = true
      · have := ih (i + 1) (acc ++ [(i : Int)]) (by omega) (by omega) (by omega) (by simp; omega)
        rw [if_pos h]
        refine ev_pos h (ev_pos (by omega) ?_)
        simpa using this
      · rw [if_neg h]
        exact ev_neg h (ih (i + 1) acc (by omega) (by omega) (by omega) (by omega))
  have mark : ∀ (d : Nat) (i : Int) (g : List Bool), 0 ≤ i → i ≤ l.length → l.length - i = d → (g.length : Int) = gord k p → (∀ x, 0 ≤ x → x < gord k p → (rdOf false g x = true ↔ ∃ j : Int, (0 ≤ j ∧ j < i) ∧ (x = rd l j ∨ x = ginv k p (rd l j)))) → ∃ c : List Int, Ev (fun m => spec_l05Closed.l0 m l g [] i k p) c ∧ c.Pairwise (· < ·) ∧ c.length ≤ 62 ∧ ∀ x, x ∈ c ↔ (1 ≤ x ∧ x < gord k p) ∧ ∃ a ∈ l, x = a ∨ x = ginv k p a := by
    intro d
    induction d with
    | zero =>
      intro i g i0 i1 hd hgl hgm
      have := collect g hgl (gord k p - 1).toNat 1 [] (by omega) (by omega) (by omega) (by simp)
      rw [List.nil_append] at this
      refine ⟨picked g (gord k p - 1).toNat 1, ev_k ?_, picked_asc g _ 1, by have := picked_length g (gord k p - 1).toNat 1; omega, fun x => ?_⟩
      · simp only [spec_l05Closed.l0]
        exact ev_neg (by omega) this
      · rw [picked_mem]
        constructor
        · rintro ⟨a, b⟩
          obtain ⟨j, hj, e⟩ := (hgm x (by omega) (by omega)).1 b
          exact ⟨by omega, rd l j, l_at l hj.1 (by omega), e⟩
        · rintro ⟨a, y, hy, e⟩
          refine ⟨by omega, (hgm x (by omega) (by omega)).2 ?_⟩
          obtain ⟨j, hj, rfl⟩ := List.getElem_of_mem hy
          have ej : rd l (j : Int) = l[j] := by simp [rd, List.getD_eq_getElem?_getD, List.getElem?_eq_getElem hj]
          exact ⟨j, by omega, by rw [ej]; exact e⟩
    | succ d ih =>
      intro i g i0 i1 hd hgl hgm
      obtain ⟨x0, x1⟩ := hm _ (l_at l i0 (by omega))
      obtain ⟨v01, _, _, hs, _⟩ := ginv_spec hg x0 x1
      obtain ⟨c, hc, h2, h3, h4⟩ := ih (i + 1) ((g.set (rd l i).toNat true).set (ginv k p (rd l i)).toNat true) (by omega) (by omega) (by omega) (by simpa using hgl) fun x a b => by
        rw [rdOf_set _ v01.1 (by simp; omega) a, rdOf_set _ x0 (by omega) a]
        constructor
        · intro z
          by_cases e : x = ginv k p (rd l i)
          · exact ⟨i, by omega, .inr e⟩
          · rw [if_neg e] at z
            by_cases f : x = rd l i
            · exact ⟨i, by omega, .inl f⟩
            · rw [if_neg f] at z
              obtain ⟨j, hj, y⟩ := (hgm x a b).1 z
              exact ⟨j, by omega, y⟩
        · rintro ⟨j, hj, y⟩
          by_cases e : x = ginv k p (rd l i)
          · rw [if_pos e]
          · rw [if_neg e]
            by_cases f : x = rd l i
            · rw [if_pos f]
            · rw [if_neg f]
              have : j ≠ i := by
                rintro rfl
                exact y.elim f e
              exact (hgm x a b).2 ⟨j, by omega, y⟩
      refine ⟨c, ev_k ?_, h2, h3, h4⟩
      simp only [spec_l05Closed.l0]
      rw [w64 (a := i + 1) (by omega) (by omega)]
      exact ev_pos (by omega) (ev_pos i0 (ev_pos x0 (ev_pos (by omega) (Ev.bind hs (ev_pos v01.1 (ev_pos (by omega) hc))))))
  obtain ⟨c, hc, h⟩ := mark l.length 0 (List.replicate (gord k p).toNat false) (by omega) (by omega) (by omega) (by simp; omega) fun x a b => by
    have : x.toNat < (gord k p).toNat := by omega
    simp [rdOf, List.getD_eq_getElem?_getD, this]
    intro j h1 h2
    omega
  refine ⟨c, ?_, h⟩
  unfold spec_l05Closed.f
  rw [s_order hg]
  simp only [Option.bind_some]
  exact ev_pos (by omega) (ev_pos (by omega) hc)
def conn (k p : Int) (l : List Int) : Prop := l.Pairwise (· < ·) ∧ ∀ x ∈ l, x ≠ 0 ∧ ginv k p x ∈ l
theorem s_set : Says (fun m => spec_l05Set.f m k p l) (conn k p l) := by
  obtain ⟨c, hc, asc, len, mem⟩ := s_closed hg l hl hm
  have e : c = l ↔ conn k p l := by
    constructor
    · rintro rfl
      refine ⟨asc, fun x hx => ?_⟩
      obtain ⟨x0, x1⟩ := hm x hx
      have := ((mem x).1 hx).1
      obtain ⟨v01, _⟩ := ginv_spec hg x0 x1
      have := ginv_ne hg x0 x1 (by omega)
      exact ⟨by omega, (mem _).2 ⟨by omega, x, hx, .inr rfl⟩⟩
    · rintro ⟨ha, hb⟩
      refine asc_ext c l asc ha fun x => ?_
      rw [mem]
      constructor
      · rintro ⟨_, a, ha, rfl | rfl⟩
        · exact ha
        · exact (hb a ha).2
      · intro hx
        have := hm x hx
        have := (hb x hx).1
        exact ⟨by omega, x, hx, .inl rfl⟩
  refine says_iff e.symm ?_
  unfold spec_l05Set.f
  refine says_bind hc ?_
  by_cases hlen : (c.length : Int) = (l.length : Int)
  · refine says_pos hlen ?_
    have loop : ∀ (d : Nat) (i : Int), 0 ≤ i → i ≤ c.length → c.length - i = d → Says (fun m => spec_l05Set.l0 m l c i) (∀ j, i ≤ j → j < c.length → rd c j = rd l j) := by
      intro d
      induction d with
      | zero =>
        intro i i0 i1 hd
        refine says_k ?_
        simp only [spec_l05Set.l0]
        exact says_neg (by omega) (says_true fun j _ _ => by omega)
      | succ d ih =>
        intro i i0 i1 hd
        refine says_k ?_
        simp only [spec_l05Set.l0]
        refine says_pos (by omega) (says_pos i0 (says_pos (by omega) ?_))
        by_cases z : rd c i = rd l i
        · refine says_pos z ?_
          rw [w64 (a := i + 1) (by omega) (by omega)]
          exact says_iff ⟨fun y j a b => y j (by omega) b, fun y j a b => if q : j = i then by rw [q]; exact z else y j (by omega) b⟩ (ih (i + 1) (by omega) (by omega) (by omega))
        · exact says_neg z (says_false fun y => z (y i (by omega) (by omega)))
    exact says_iff ⟨fun z => by subst z; exact fun _ _ _ => rfl, fun z => rd_ext (by omega) fun v v0 v1 => z v v0 v1⟩ (loop c.length 0 (by omega) (by omega) (by omega))
  · exact says_neg hlen (says_false fun z => hlen (by rw [z]))
theorem i_conn : Says (fun m => impl_Group_isConnection.f m k p l) (conn k p l) := by
  have loop : ∀ (d : Nat) (i : Int), 0 ≤ i → i ≤ l.length → l.length - i = d → Says (fun m => impl_Group_isConnection.l0 m l l l.length i k p) (∀ j : Int, i ≤ j → j < l.length → rd l j ≠ 0 ∧ (0 < j → rd l (j - 1) < rd l j) ∧ ginv k p (rd l j) ∈ l) := by
    intro d
    induction d with
    | zero =>
      intro i i0 i1 hd
      refine says_k ?_
      simp only [impl_Group_isConnection.l0]
      exact says_neg (by omega) (says_true fun j _ _ => by omega)
    | succ d ih =>
      intro i i0 i1 hd
      obtain ⟨x0, x1⟩ := hm _ (l_at l i0 (by omega))
      obtain ⟨_, _, _, _, hi⟩ := ginv_spec hg x0 x1
      have ih := ih (i + 1) (by omega) (by omega) (by omega)
      have fin : (0 < i → rd l (i - 1) < rd l i) → rd l i ≠ 0 → Says (fun m => (impl_Group_inverse.f m k p (rd l i)).bind fun t => (slices_Contains_int64_int64.f m l t).bind fun b => if b = true then impl_Group_isConnection.l0 m l l l.length (wrap64 (i + 1)) k p else some false) (∀ j : Int, i ≤ j → j < l.length → rd l j ≠ 0 ∧ (0 < j → rd l (j - 1) < rd l j) ∧ ginv k p (rd l j) ∈ l) := by
        intro hr hz
        refine says_bind hi ?_
        have hs := r_mem l (by omega) (ginv k p (rd l i))
        by_cases z : ginv k p (rd l i) ∈ l
        · refine says_bind (hs.yes z) (says_pos rfl ?_)
          rw [w64 (a := i + 1) (by omega) (by omega)]
          exact says_iff ⟨fun y j a b => y j (by omega) b, fun y j a b => if q : j = i then by rw [q]; exact ⟨hz, hr, z⟩ else y j (by omega) b⟩ ih
        · exact says_bind (hs.no z) (says_neg (by simp) (says_false fun y => z (y i (by omega) (by omega)).2.2))
      refine says_k ?_
      simp only [impl_Group_isConnection.l0]
      refine says_pos (by omega) (says_pos i0 (says_pos (by omega) ?_))
      by_cases hz : rd l i = 0
      · exact says_pos hz (says_false fun y => (y i (by omega) (by omega)).1 hz)
      · refine says_neg hz ?_
        by_cases hi0 : i > 0
        · refine says_pos hi0 ?_
          rw [w64 (a := i - 1) (by omega) (by omega)]
          refine says_pos (by omega) (says_pos (by omega) ?_)
          by_cases hr : rd l i ≤ rd l (i - 1)
          · exact says_pos hr (says_false fun y => by have := (y i (by omega) (by omega)).2.1 (by omega); omega)
          · exact says_neg hr (fin (fun _ => by omega) hz)
        · exact says_neg hi0 (fin (fun z => absurd z hi0) hz)
  unfold impl_Group_isConnection.f
  refine says_iff ?_ (loop l.length 0 (by omega) (by omega) (by omega))
  constructor
  · rintro ⟨ha, hb⟩ j j0 j1
    refine ⟨(hb _ (l_at l j0 j1)).1, fun hj => ?_, (hb _ (l_at l j0 j1)).2⟩
    have := List.pairwise_iff_getElem.1 ha (j - 1).toNat j.toNat (by omega) (by omega) (by omega)
    rw [rd_getElem (show (j - 1).toNat < l.length by omega), rd_getElem (show j.toNat < l.length by omega)]
    exact this
  · intro h
    refine ⟨List.pairwise_iff_getElem.2 fun i j hi hj hij => ?_, fun x hx => ?_⟩
    · have key : ∀ (c : Nat) (a : Int), 0 ≤ a → a + (c + 1) < l.length → rd l a < rd l (a + (c + 1)) := by
        intro c
        induction c with
        | zero =>
          intro a a0 a1
          have := (h (a + 1) (by omega) (by omega)).2.1 (by omega)
          rw [show a + 1 - 1 = a by omega] at this
          simpa using this
        | succ c ih =>
          intro a a0 a1
          have b1 := ih a a0 (by omega)
          have b2 := (h (a + ((c + 1 : Nat) + 1)) (by omega) (by omega)).2.1 (by omega)
          rw [show a + (((c + 1 : Nat) : Int) + 1) - 1 = a + ((c : Int) + 1) by omega] at b2
          omega
      have := key (j - i - 1) i (by omega) (by omega)
      rw [show (i : Int) + (((j - i - 1 : Nat) : Int) + 1) = (j : Int) by omega] at this
      simpa [rd, List.getD_eq_getElem?_getD, List.getElem?_eq_getElem hi, List.getElem?_eq_getElem hj] using this
    · obtain ⟨j, hj, rfl⟩ := mem_rd' hx
      have := h j hj.1 hj.2
      exact ⟨this.1, this.2.2⟩
end
end Go.Proofs.Ytkmpkcofddpdgaa.Q
namespace Go.Proofs.Ytkmpkcofddpdgaa.Q
open Go Go.RowKit Go.Proofs.Ytkmpkcofddpdgaa.P Go.Proofs.YtkmpkcofddpdgaaW.PrintWords Go.Proofs.YtkmpkcofddpdgaaW.PrintMore
def joined (m : List Int) (v u : Int) : List Int :=
  let y := m.set v.toNat (bits .or .i64 (rd m v) (shl .i64 1 u))
  y.set u.toNat (bits .or .i64 (rd y u) (shl .i64 1 v))
theorem Mx.joined {n : Int} {m : List Int} {P : Int → Int → Prop} (h : Mx n m P) (n2 : n ≤ 62) {v u : Int} (v0 : 0 ≤ v) (v1 : v < n) (u0 : 0 ≤ u) (u1 : u < n) : Mx n (joined m v u) (fun a b => P a b ∨ (a = v ∧ b = u) ∨ (a = u ∧ b = v)) :=
  ((h.or n2 v0 v1 u0 u1).or n2 u0 u1 v0 v1).imp fun a b _ _ _ _ => ⟨fun z => by rcases z with (z | z) | z; exact .inl z; exact .inr (.inl z); exact .inr (.inr z), fun z => by rcases z with z | z | z; exact .inl (.inl z); exact .inl (.inr z); exact .inr z⟩
theorem s_put (n : Int) (m : List Int) (v u : Int) (v0 : 0 ≤ v) (v1 : v < m.length) (u0 : 0 ≤ u) (u1 : u < m.length) (hm : m.length ≤ 62) : spec_l01Put.f n m v u = some (joined m v u) := by
  unfold spec_l01Put.f joined
  rw [wu64 v0 (by omega), wu64 u0 (by omega), if_pos v0, if_pos v1, if_pos u0]
  simp only [Option.bind_some]
  rw [if_pos u0, if_pos u1, if_pos v0]
theorem i_put (n : Int) (m : List Int) (v u : Int) (v0 : 0 ≤ v) (v1 : v < m.length) (u0 : 0 ≤ u) (u1 : u < m.length) (e : v ≠ u) : impl_Graph_put.f n m v u = some (joined m v u) := by
  unfold impl_Graph_put.f joined
  rw [if_neg e, if_pos v0, if_pos v1, if_pos u0]
  simp only [Option.bind_some]
  rw [if_pos u1]
theorem s_empty (n : Int) (n0 : 0 ≤ n) (n2 : n ≤ 62) : spec_l01Empty.f n = some (n, List.replicate n.toNat 0) := by
  unfold spec_l01Empty.f
  rw [if_pos n0, if_pos (by omega)]
theorem i_empty (n : Int) (n0 : 0 ≤ n) (n2 : n ≤ 62) : impl_empty.f n = some (n, List.replicate n.toNat 0) := by
  unfold impl_empty.f
  rw [if_pos n0, if_pos (by omega)]
end Go.Proofs.Ytkmpkcofddpdgaa.Q
namespace Go.Proofs.Ytkmpkcofddpdgaa.Q
open Go Go.RowKit Go.Proofs.Ytkmpkcofddpdgaa.P Go.Proofs.YtkmpkcofddpdgaaW.PrintWords Go.Proofs.YtkmpkcofddpdgaaW.PrintMore
theorem rd_at (l : List Int) (i : Int) (h1 : i.toNat < l.length) : rd l i = l[i.toNat] := by
  simp [rd, List.getD_eq_getElem?_getD, List.getElem?_eq_getElem h1]
theorem toS_l0 (l : List Int) (hl : l.length < 9223372036854775807) (d : Nat) : ∀ (m : List Int) (i : Int), 0 ≤ i → i ≤ l.length → l.length - i = d → m.length = l.length → (∀ j, j < i.toNat → m[j]? = l[j]?) →
    Ev (fun k => laws_toInt64S.l0 k l m i) l := by
  induction d with
  | zero =>
    intro m i h0 h1 hd hm hj
    refine ev_k ?_
    simp only [laws_toInt64S.l0]
    refine ev_neg (by omega) (ev_some (List.ext_getElem? fun j => ?_))
    by_cases h : j < i.toNat
    · exact hj j h
    · rw [List.getElem?_eq_none (by omega), List.getElem?_eq_none (by omega)]
  | succ d ih =>
    intro m i h0 h1 hd hm hj
    refine ev_k ?_
    simp only [laws_toInt64S.l0]
    refine ev_pos (by omega) (ev_pos h0 (ev_pos (by omega) ?_))
    rw [w64 (a := i + 1) (by omega) (by omega)]
    refine ih _ (i + 1) (by omega) (by omega) (by omega) (by simpa using hm) fun j h => ?_
    rw [List.getElem?_set]
    split
    · subst_vars
      rw [if_pos (by omega), rd_at l i (by omega), List.getElem?_eq_getElem]
    · exact hj j (by omega)
theorem toS (l : List Int) (hl : l.length ≤ 35184372088832) : Ev (fun k => laws_toInt64S.f k l) l := by
  unfold laws_toInt64S.f
  refine ev_pos (by omega) (ev_pos (by omega) ?_)
  exact toS_l0 l (by omega) l.length _ 0 (by omega) (by omega) (by omega) (by simp) (fun j h => by simp at h)
theorem eqS_l0 (l m : List Int) (e : l.length = m.length) (hl : l.length < 9223372036854775807) (d : Nat) : ∀ (i : Int), 0 ≤ i → i ≤ l.length → l.length - i = d →
    Ev (fun k => laws_eqInt64S.l0 k l m i) (decide (l.drop i.toNat = m.drop i.toNat)) := by
  have dc : ∀ (l : List Int) (i : Int), 0 ≤ i → i < l.length → l.drop i.toNat = rd l i :: l.drop (i + 1).toNat := fun l i h0 h1 => by
    rw [List.drop_eq_getElem_cons (by omega : i.toNat < l.length), show (i + 1).toNat = i.toNat + 1 by omega, rd_at l i (by omega)]
  induction d with
  | zero =>
    intro i h0 h1 hd
    refine ev_k ?_
    simp only [laws_eqInt64S.l0]
    refine ev_neg (by omega) (ev_some ?_)
    rw [List.drop_of_length_le (by omega), List.drop_of_length_le (by omega)]
    rfl
  | succ d ih =>
    intro i h0 h1 hd
    refine ev_k ?_
    simp only [laws_eqInt64S.l0]
    refine ev_pos (by omega) (ev_pos h0 (ev_pos (by omega) ?_))
    rw [w64 (a := i + 1) (by omega) (by omega), dc l i h0 (by omega), dc m i h0 (by omega)]
    by_cases h : rd l i = rd m i
    · refine ev_pos h ?_
      simp only [List.cons.injEq, h, true_and]
      exact ih (i + 1) (by omega) (by omega) (by omega)
    · refine ev_neg h (ev_some ?_)
      simp [h]
theorem eqS (l m : List Int) (hl : l.length < 9223372036854775807) : Ev (fun k => laws_eqInt64S.f k l m) (decide (l = m)) := by
  unfold laws_eqInt64S.f
  by_cases e : l.length = m.length
  · refine ev_pos (by omega) ?_
    simpa using eqS_l0 l m e hl l.length 0 (by omega) (by omega) (by omega)
  · refine ev_neg (by omega) (ev_some ?_)
    exact (decide_eq_false fun h => e (by rw [h])).symm
theorem eqS_self (l : List Int) (hl : l.length < 9223372036854775807) : Ev (fun k => laws_eqInt64S.f k l l) true := by
  simpa using eqS l l hl
def marks (a : Int) (n : Nat) : List Int := (List.range n).map fun (j : Nat) => a + (j : Int)
theorem marks_length (a : Int) (n : Nat) : (marks a n).length = n := by simp [marks]
theorem marks_at (a : Int) (n j : Nat) (h : j < n) : (marks a n)[j]? = some (a + j) := by
  simp [marks, h]
theorem mark_l0 (n : Nat) (a : Int) (ha : 0 ≤ a) (hn : a + n < 9223372036854775807) (d : Nat) : ∀ (m : List Int) (i : Int), 0 ≤ i → i ≤ n → n - i = d → m.length = n → (∀ j, j < i.toNat → m[j]? = some (a + j)) →
    Ev (fun k => laws_markInt64S.l0 k m (a + i) i) (a + n, marks a n) := by
  induction d with
  | zero =>
    intro m i h0 h1 hd hm hj
    refine ev_k ?_
    simp only [laws_markInt64S.l0]
    refine ev_neg (by omega) (ev_some ?_)
    have : m = marks a n := by
      refine List.ext_getElem? fun j => ?_
      by_cases h : j < n
      · rw [hj j (by omega), marks_at a n j h]
      · rw [List.getElem?_eq_none (by omega), List.getElem?_eq_none (by rw [marks_length]; omega)]
    rw [this, show i = n by omega]
  | succ d ih =>
    intro m i h0 h1 hd hm hj
    refine ev_k ?_
    simp only [laws_markInt64S.l0]
    refine ev_pos (by omega) (ev_pos h0 ?_)
    rw [w64 (a := i + 1) (by omega) (by omega), w64 (a := a + i + 1) (by omega) (by omega), show a + i + 1 = a + (i + 1) by omega]
    refine ih _ (i + 1) (by omega) (by omega) (by omega) (by simpa using hm) fun j h => ?_
    rw [List.getElem?_set]
    split
    · subst_vars
      rw [if_pos (by omega), Int.toNat_of_nonneg h0]
    · exact hj j (by omega)
theorem markS (l : List Int) (a : Int) (ha : 0 ≤ a) (hn : a + l.length < 9223372036854775807) : Ev (fun k => laws_markInt64S.f k l a) (a + l.length, marks a l.length) := by
  unfold laws_markInt64S.f
  have h := mark_l0 l.length a ha hn l.length l 0 (by omega) (by omega) (by omega) rfl (fun j h => by simp at h)
  rwa [Int.add_zero] at h
theorem held_l0 (n : Nat) (a : Int) (ha : 0 ≤ a) (hn : a + n < 9223372036854775807) (d : Nat) : ∀ (i : Int), 0 ≤ i → i ≤ n → n - i = d →
    Ev (fun k => laws_heldInt64S.l0 k (marks a n) (a + i) i) (a + n) := by
  induction d with
  | zero =>
    intro i h0 h1 hd
    refine ev_k ?_
    simp only [laws_heldInt64S.l0]
    exact ev_neg (by rw [marks_length]; omega) (ev_some (by omega))
  | succ d ih =>
    intro i h0 h1 hd
    refine ev_k ?_
    simp only [laws_heldInt64S.l0]
    refine ev_pos (by rw [marks_length]; omega) (ev_pos h0 (ev_pos ?_ ?_))
    · have := marks_at a n i.toNat (by omega)
      simp only [rd, List.getD_eq_getElem?_getD, this, Option.getD_some]
      omega
    · rw [w64 (a := i + 1) (by omega) (by omega), w64 (a := a + i + 1) (by omega) (by omega), show a + i + 1 = a + (i + 1) by omega]
      exact ih (i + 1) (by omega) (by omega) (by omega)
theorem heldS (n : Nat) (a : Int) (ha : 0 ≤ a) (hn : a + n < 9223372036854775807) : Ev (fun k => laws_heldInt64S.f k (marks a n) a) (a + n) := by
  unfold laws_heldInt64S.f
  have h := held_l0 n a ha hn n 0 (by omega) (by omega) (by omega)
  rwa [Int.add_zero] at h
end Go.Proofs.Ytkmpkcofddpdgaa.Q
namespace Go.Proofs.Ytkmpkcofddpdgaa.Q
open Go Go.RowKit Go.Proofs.Ytkmpkcofddpdgaa.P Go.Proofs.YtkmpkcofddpdgaaW.PrintWords Go.Proofs.YtkmpkcofddpdgaaW.PrintMore
theorem eqG (n : Int) (l : List Int) (hl : l.length ≤ 1048576) : Ev (fun m => laws_eqGraph.f m n l n l) true := by
  unfold laws_eqGraph.f
  exact ev_pos rfl (Ev.bind (eqS_self l (by omega)) (ev_pos rfl (Ev.now _)))
theorem markG (n : Int) (l : List Int) (hl : l.length ≤ 1048576) : Ev (fun m => laws_markGraph.f m n l 1) (1 + (l.length : Int), marks 1 l.length) := by
  unfold laws_markGraph.f
  exact Ev.bind (markS l 1 (by omega) (by omega)) (Ev.now _)
theorem heldG (n : Int) (j : Nat) (hl : j ≤ 1048576) : Ev (fun m => laws_heldGraph.f m n (marks 1 j) 1) (1 + (j : Int)) := by
  unfold laws_heldGraph.f
  exact Ev.bind (heldS j 1 (by omega) (by omega)) (ev_neg (by omega) (Ev.now _))
end Go.Proofs.Ytkmpkcofddpdgaa.Q
namespace Go.Proofs.Ytkmpkcofddpdgaa.Pure
open Go Go.RowKit Go.Proofs.Ytkmpkcofddpdgaa.P Go.Proofs.YtkmpkcofddpdgaaW.PrintWords Go.Proofs.YtkmpkcofddpdgaaW.PrintLast Go.Proofs.YtkmpkcofddpdgaaW.PrintMore Go.Proofs.Ytkmpkcofddpdgaa.Q
theorem gmul_ne {k p v x : Int} (h : gok k p) (v0 : 0 ≤ v) (v1 : v < gord k p) (x0 : 0 ≤ x) (x1 : x < gord k p) (e : gmul k p v x = v) : x = 0 := by
  rcases h with ⟨rfl, a, b⟩ | ⟨rfl, a, b⟩ | ⟨rfl, hp⟩
  · simp only [gmul, gord, if_true] at *
    by_cases z : v + x < p
    · rw [Int.emod_eq_of_lt (by omega) z] at e
      omega
    · rw [← Int.sub_emod_right, Int.emod_eq_of_lt (by omega) (by omega)] at e
      omega
  · simp only [gmul, gord, show ¬ (1 : Int) = 0 by decide, if_true, if_false] at *
    rcases div01 (by omega) x0 x1 with ⟨h1, e1, e2⟩ | ⟨h1, e1, e2⟩ <;> rw [e1, e2] at e
    · by_cases hv : v < p
      · rw [if_pos hv] at e
        simp only [show (0 : Int) % 2 = 0 by decide, Int.zero_mul, Int.zero_add] at e
        by_cases z : v + x < p
        · rw [Int.emod_eq_of_lt (by omega) z] at e
          omega
        · rw [← Int.sub_emod_right, Int.emod_eq_of_lt (by omega) (by omega)] at e
          omega
      · rw [if_neg hv] at e
        simp only [show (1 + 0 : Int) % 2 = 1 by decide, Int.one_mul] at e
        by_cases z : v - p - x + p < p
        · rw [Int.emod_eq_of_lt (by omega) z] at e
          omega
        · rw [show v - p - x + p = v - p - x + p by rfl, Int.add_emod_right, Int.emod_eq_of_lt (by omega) (by omega)] at e
          omega
    · exfalso
      by_cases hv : v < p
      · rw [if_pos hv] at e
        simp only [show (1 : Int) % 2 = 1 by decide, Int.one_mul] at e
        have := Int.emod_nonneg (v + (x - p)) (show p ≠ 0 by omega)
        omega
      · rw [if_neg hv] at e
        simp only [show (1 + 1 : Int) % 2 = 0 by decide, Int.zero_mul, Int.zero_add] at e
        have := Int.emod_lt_of_pos (v - p - (x - p) + p) (show 0 < p by omega)
        omega
  · have key : ∀ p ∈ [2, 3, 5, 7], ∀ v < p * (p - 1), ∀ x < p * (p - 1), gmul 2 (p : Nat) (v : Nat) (x : Nat) = (v : Nat) → x = 0 := by decide +kernel
    have hq : ∃ q : Nat, p = q ∧ q ∈ [2, 3, 5, 7] := by rcases hp with rfl | rfl | rfl | rfl <;> exact ⟨_, rfl, by decide⟩
    obtain ⟨q, rfl, hq⟩ := hq
    have g : gord 2 (q : Int) = ((q * (q - 1) : Nat) : Int) := by
      simp at hq
      rcases hq with rfl | rfl | rfl | rfl <;> simp [gord]
    rw [g] at v1 x1
    have := key q hq v.toNat (by omega) x.toNat (by omega)
    rw [Int.toNat_of_nonneg v0, Int.toNat_of_nonneg x0] at this
    have := this e
    omega
def cayRow (k p : Int) (l : List Int) (v : Int) : Nat → Int → List Int → List Int
  | 0, _, m => m
  | d + 1, i, m => cayRow k p l v d (i + 1) (joined m v (gmul k p v (rd l i)))
def cayAll (k p : Int) (l : List Int) : Nat → Int → List Int → List Int
  | 0, _, m => m
  | d + 1, v, m => cayAll k p l d (v + 1) (cayRow k p l v l.length 0 m)
theorem joined_length (m : List Int) (v u : Int) : (joined m v u).length = m.length := by simp [joined]
theorem cayRow_length (k p : Int) (l : List Int) (v : Int) (d : Nat) : ∀ i m, (cayRow k p l v d i m).length = m.length := by
  induction d with
  | zero => intro i m; rfl
  | succ d ih => intro i m; simp [cayRow, ih, joined_length]
theorem cayAll_length (k p : Int) (l : List Int) (d : Nat) : ∀ v m, (cayAll k p l d v m).length = m.length := by
  induction d with
  | zero => intro v m; rfl
  | succ d ih => intro v m; simp [cayAll, ih, cayRow_length]
theorem graphs {k p : Int} (hg : gok k p) (l : List Int) (hl : l.length ≤ 1048576) (hm : ∀ x ∈ l, 0 ≤ x ∧ x < gord k p) (hc : conn k p l) (d : Nat) : ∀ (v : Int) (m : List Int), 0 ≤ v → v ≤ gord k p → gord k p - v = d → (m.length : Int) = gord k p → Ev (fun z => spec_l05Cayley.l0 z l v k p (gord k p) m) (gord k p, cayAll k p l d v m) ∧ Ev (fun z => impl_CayleyGraph.l0 z l (gord k p) v k p (gord k p) m) (gord k p, cayAll k p l d v m, 0) := by
  have ho := gord_pos hg
  induction d with
  | zero =>
    intro v m v0 v1 hd hlen
    refine ⟨ev_k ?_, ev_k ?_⟩
    · simp only [spec_l05Cayley.l0]
      exact ev_neg (by omega) (Ev.now _)
    · simp only [impl_CayleyGraph.l0]
      exact ev_neg (by omega) (Ev.now _)
  | succ d ih =>
    intro v m v0 v1 hd hlen
    have inner : ∀ (e : Nat) (i : Int) (m : List Int), 0 ≤ i → i ≤ l.length → l.length - i = e → (m.length : Int) = gord k p → Ev (fun z => spec_l05Cayley.l1 z l v i k p (gord k p) m) (gord k p, cayAll k p l d (v + 1) (cayRow k p l v e i m)) ∧ Ev (fun z => impl_CayleyGraph.l1 z l v (gord k p) v l l.length i k p (gord k p) m) (gord k p, cayAll k p l d (v + 1) (cayRow k p l v e i m), 0) := by
      intro e
      induction e with
      | zero =>
        intro i m i0 i1 he hlen
        obtain ⟨a, b⟩ := ih (v + 1) m (by omega) (by omega) (by omega) hlen
        refine ⟨ev_k ?_, ev_k ?_⟩
        · simp only [spec_l05Cayley.l1]
          rw [w64 (a := v + 1) (by omega) (by omega)]
          exact ev_neg (by omega) a
        · simp only [impl_CayleyGraph.l1]
          rw [w64 (a := v + 1) (by omega) (by omega)]
          exact ev_neg (by omega) b
      | succ e ihe =>
        intro i m i0 i1 he hlen
        have hmem := l_at l i0 (by omega)
        obtain ⟨x0, x1⟩ := hm _ hmem
        obtain ⟨z0, z1⟩ := gmul_range hg v0 (by omega) x0 x1
        have hne : v ≠ gmul k p v (rd l i) := fun z => (hc.2 _ hmem).1 (gmul_ne hg v0 (by omega) x0 x1 z.symm)
        obtain ⟨a, b⟩ := ihe (i + 1) (joined m v (gmul k p v (rd l i))) (by omega) (by omega) (by omega) (by rw [joined_length]; exact hlen)
        refine ⟨ev_k ?_, ev_k ?_⟩
        · simp only [spec_l05Cayley.l1]
          rw [w64 (a := i + 1) (by omega) (by omega)]
          exact ev_pos (by omega) (ev_pos i0 (ev_bind0 (s_times hg v0 (by omega) x0 x1) (ev_bind0 (s_put _ m v _ v0 (by omega) z0 (by omega) (by omega)) a)))
        · simp only [impl_CayleyGraph.l1]
          rw [w64 (a := i + 1) (by omega) (by omega)]
          exact ev_pos (by omega) (ev_pos i0 (ev_pos (by omega) (ev_bind0 (i_product hg v0 (by omega) x0 x1) (ev_bind0 (i_put _ m v _ v0 (by omega) z0 (by omega) hne) b))))
    obtain ⟨a, b⟩ := inner l.length 0 m (by omega) (by omega) (by omega) hlen
    refine ⟨ev_k ?_, ev_k ?_⟩
    · simp only [spec_l05Cayley.l0]
      exact ev_pos (by omega) a
    · simp only [impl_CayleyGraph.l0]
      exact ev_pos (by omega) b
theorem both (k p : Int) (l : List Int) (hl : l.length ≤ 1048576) : ∃ m r q, r.length ≤ 1048576 ∧ Ev (fun z => spec_CayleyGraph.f z k p l) (m, r, q) ∧ Ev (fun z => impl_CayleyGraph.f z k p l) (m, r, q) := by
  unfold spec_CayleyGraph.f impl_CayleyGraph.f
  have hs := s_elems k p l (by omega)
  have hi := i_code k p l (by omega)
  have given : ∃ q, Ev (fun z => spec_l05Given.f z k p l) q ∧ Ev (fun z => impl_connectionCode.f z k p l) q ∧ (q = 0 → gok k p ∧ (∀ x ∈ l, 0 ≤ x ∧ x < gord k p) ∧ conn k p l) := by
    unfold spec_l05Given.f impl_connectionCode.f
    by_cases h : gcode k p l = 0
    · obtain ⟨hg, hm⟩ := gcode_zero h
      by_cases hc : conn k p l
      · exact ⟨0, Ev.bind hs (ev_pos h (Ev.bind ((s_set hg l hl hm).yes hc) (ev_pos rfl (ev_some h)))), Ev.bind hi (ev_pos h (Ev.bind ((i_conn hg l hl hm).yes hc) (ev_pos rfl (Ev.now _)))), fun _ => ⟨hg, hm, hc⟩⟩
      · exact ⟨5, Ev.bind hs (ev_pos h (Ev.bind ((s_set hg l hl hm).no hc) (ev_neg (by simp) (Ev.now _)))), Ev.bind hi (ev_pos h (Ev.bind ((i_conn hg l hl hm).no hc) (ev_neg (by simp) (Ev.now _)))), fun z => by omega⟩
    · exact ⟨_, Ev.bind hs (ev_neg h (Ev.now _)), Ev.bind hi (ev_neg h (Ev.now _)), fun z => absurd z h⟩
  obtain ⟨q, h1, h2, h3⟩ := given
  by_cases hq : q = 0
  · obtain ⟨hg, hm, hc⟩ := h3 hq
    have ho := gord_pos hg
    obtain ⟨a, b⟩ := graphs hg l hl hm hc (gord k p).toNat 0 (List.replicate (gord k p).toNat 0) (by omega) (by omega) (by omega) (by simp; omega)
    refine ⟨gord k p, _, 0, ?_, Ev.bind h1 (ev_pos hq (Ev.bind (a := (gord k p, cayAll k p l (gord k p).toNat 0 (List.replicate (gord k p).toNat 0))) ?_ (Ev.now _))), Ev.bind h2 (ev_pos hq (ev_bind0 (i_order hg) (ev_bind0 (i_empty _ (by omega) (by omega)) (ev_bind0 (i_order hg) b))))⟩
    · rw [cayAll_length]
      simp
      omega
    · unfold spec_l05Cayley.f
      exact ev_bind0 (s_order hg) (ev_bind0 (s_empty _ (by omega) (by omega)) a)
  · exact ⟨0, [], q, by simp, Ev.bind h1 (ev_neg hq (Ev.now _)), Ev.bind h2 (ev_neg hq (Ev.now _))⟩
theorem FnExactCayleyGraph : ∀ (a0_0 : Int) (a0_1 : Int) (l1 : List Int), (Lit.int .i64 a0_0).wf = true → (Lit.int .i64 a0_1).wf = true → l1.length ≤ maxLen → (∀ x ∈ l1, (Lit.int .i64 x).wf = true) → ∃ k, laws_FnExactCayleyGraph.f k a0_0 a0_1 l1 = some true := by
  intro k p l _ _ _ _
  refine Ev.rounds ?_
  unfold laws_FnExactCayleyGraph.f
  by_cases hs : l.length ≤ 1048576
  · refine ev_neg (by omega) ?_
    obtain ⟨m, r, q, hr, h1, h2⟩ := both k p l hs
    simp only [laws_toGroup.f, Option.bind_some]
    refine Ev.bind (toS l (by omega)) (Ev.bind h1 (Ev.bind (toS l (by omega)) (Ev.bind h2 (Ev.bind (eqG m r hr) (ev_pos rfl ?_)))))
    refine ev_k ?_
    simp only [laws_FnExactCayleyGraph.j0]
    refine ev_neg (by simp) (Ev.bind (toS l (by omega)) (Ev.bind (eqS_self l (by omega)) (ev_pos rfl (Ev.bind (markS l 1 (by omega) (by omega)) (ev_neg (by simp only []; omega) (Ev.bind (eqG m r hr) (ev_pos rfl ?_)))))))
    refine ev_k ?_
    simp only [laws_FnExactCayleyGraph.j1, laws_toGroup.f, Option.bind_some]
    refine ev_neg (by simp) (Ev.bind (markG m r hr) (Ev.bind (heldG m r.length hr) (ev_neg (by omega) (ev_pos rfl ?_))))
    refine Ev.bind (toS l (by omega)) (Ev.bind h2 (Ev.bind (eqG m r hr) (ev_pos rfl ?_)))
    refine ev_k ?_
    simp only [laws_FnExactCayleyGraph.j2]
    exact ev_neg (by simp) (Ev.bind (heldG m r.length hr) (ev_neg (by omega) (ev_pos rfl (Ev.now _))))
  · exact ev_pos (by omega) (Ev.now _)
end Go.Proofs.Ytkmpkcofddpdgaa.Pure
