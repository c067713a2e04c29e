/- The pure law and what it leans on, in one text (wip/bin/bundle). -/
import Derived.Test.YtkmpkcofddpdgaaDoorP36
import Derived.Test.YtkmpkcofddpdgaaDoorP38
import Derived.Test.YtkmpkcofddpdgaaDoorP48
import Derived.Test.YtkmpkcofddpdgaaDoorP49
import Derived.Test.YtkmpkcofddpdgaaDoorP50
import Derived.Test.YtkmpkcofddpdgaaDoorP37
import Derived.Test.YtkmpkcofddpdgaaDoorP45
import Derived.Test.YtkmpkcofddpdgaaDoorP34
import Derived.Test.YtkmpkcofddpdgaaDoorP35
import Derived.Test.YtkmpkcofddpdgaaDoorP47
import Derived.Test.YtkmpkcofddpdgaaDoorP33
import Derived.Test.YtkmpkcofddpdgaaDoorP44
import Derived.Test.YtkmpkcofddpdgaaDoorP29
import Derived.Test.YtkmpkcofddpdgaaDoorP30
import Derived.Test.YtkmpkcofddpdgaaDoorP31
import Derived.Test.YtkmpkcofddpdgaaDoorP32
import Derived.Test.YtkmpkcofddpdgaaDoorP40
import Derived.Test.YtkmpkcofddpdgaaDoorP41
import Derived.Test.YtkmpkcofddpdgaaDoorP42
import Derived.Test.YtkmpkcofddpdgaaDoorP43
import Derived.Test.YtkmpkcofddpdgaaDoorWA
import Derived.Test.YtkmpkcofddpdgaaDoorWBMore
import Derived.Test.YtkmpkcofddpdgaaDoorP1
import Derived.Test.YtkmpkcofddpdgaaDoorP46
import Derived.Laws.BitsLemmas
import Derived.Test.YtkmpkcofddpdgaaDoorP19
import Derived.Test.YtkmpkcofddpdgaaDoorP71
import Derived.Test.YtkmpkcofddpdgaaDoorP15
import Derived.Test.YtkmpkcofddpdgaaDoorP16
import Derived.Lib.TrailingZeros
import Derived.Test.YtkmpkcofddpdgaaDoorP10
import Derived.Test.YtkmpkcofddpdgaaDoorP22
import Derived.Test.YtkmpkcofddpdgaaDoorP24
import Derived.Test.YtkmpkcofddpdgaaDoorP26
namespace Go.Proofs.YtkmpkcofddpdgaaDoor.Q
open Go Go.RowKit Go.Proofs.YtkmpkcofddpdgaaDoorW.PrintWords Go.Proofs.YtkmpkcofddpdgaaDoorW.PrintMore

/-! Small words on 'from some number of rounds on'. -/
theorem ev_k {α : Type} {g : Nat → Option α} {r : α} (h : Ev (fun k => g (k + 1)) r) : Ev g r := Ev.step (fun _ => rfl) h
theorem ev_some {α : Type} {r s : α} (h : r = s) : Ev (fun _ => some r) s := h ▸ Ev.now r
theorem ev_pos {α : Type} {c : Prop} [Decidable c] {f g : Nat → Option α} {r : α} (h : c) (H : Ev f r) : Ev (fun k => if c then f k else g k) r :=
  Ev.congr (fun _ => if_pos h) H
theorem ev_neg {α : Type} {c : Prop} [Decidable c] {f g : Nat → Option α} {r : α} (h : ¬ c) (H : Ev g r) : Ev (fun k => if c then f k else g k) r :=
  Ev.congr (fun _ => if_neg h) H
theorem ev_ite {α : Type} {c : Prop} [Decidable c] {f g : Nat → Option α} {r : α} (h : c → Ev f r) (h' : ¬ c → Ev g r) : Ev (fun k => if c then f k else g k) r := by
  by_cases hc : c
  · exact ev_pos hc (h hc)
  · exact ev_neg hc (h' hc)
theorem ev_of {α : Type} {o : Option α} {r : α} (h : o = some r) : Ev (fun _ => o) r := ⟨0, fun _ _ => h⟩
theorem ev_bind0 {α β : Type} {o : Option α} {f : Nat → α → Option β} {a : α} {r : β} (h : o = some a) (H : Ev (fun n => f n a) r) : Ev (fun n => o.bind (f n)) r :=
  Ev.bind (ev_of h) H

theorem wf64 {a : Int} (h : (Lit.int .i64 a).wf = true) : -9223372036854775808 ≤ a ∧ a < 9223372036854775808 := by
  simp [Lit.wf, IntKind.min, IntKind.max, IntKind.signed, IntKind.bits] at h
  omega
theorem w64 {a : Int} (h0 : -9223372036854775808 ≤ a) (h1 : a < 9223372036854775808) : wrap64 a = a := by
  unfold wrap64
  omega

/-- It comes to a bool, which tells whether P. -/
def Says (g : Nat → Option Bool) (P : Prop) : Prop := ∃ b : Bool, Ev g b ∧ (b = true ↔ P)
theorem says_iff {g : Nat → Option Bool} {P R : Prop} (h : P ↔ R) (H : Says g R) : Says g P := by
  obtain ⟨b, hb, e⟩ := H
  exact ⟨b, hb, e.trans h.symm⟩
theorem says_k {g : Nat → Option Bool} {P : Prop} (H : Says (fun k => g (k + 1)) P) : Says g P := by
  obtain ⟨b, hb, e⟩ := H
  exact ⟨b, ev_k hb, e⟩
theorem says_pos {c : Prop} [Decidable c] {f g : Nat → Option Bool} {P : Prop} (h : c) (H : Says f P) : Says (fun k => if c then f k else g k) P := by
  obtain ⟨b, hb, e⟩ := H
  exact ⟨b, ev_pos h hb, e⟩
theorem says_neg {c : Prop} [Decidable c] {f g : Nat → Option Bool} {P : Prop} (h : ¬ c) (H : Says g P) : Says (fun k => if c then f k else g k) P := by
  obtain ⟨b, hb, e⟩ := H
  exact ⟨b, ev_neg h hb, e⟩
theorem says_true {P : Prop} (h : P) : Says (fun _ => some true) P := ⟨true, Ev.now _, by simp [h]⟩
theorem says_false {P : Prop} (h : ¬ P) : Says (fun _ => some false) P := ⟨false, Ev.now _, by simp [h]⟩
theorem says_now (b : Bool) : Says (fun _ => some b) (b = true) := ⟨b, Ev.now _, Iff.rfl⟩
theorem says_bind {α : Type} {g : Nat → Option α} {f : Nat → α → Option Bool} {a : α} {P : Prop} (h : Ev g a) (H : Says (fun n => f n a) P) : Says (fun n => (g n).bind (f n)) P := by
  obtain ⟨b, hb, e⟩ := H
  exact ⟨b, Ev.bind h hb, e⟩
theorem Says.yes {g : Nat → Option Bool} {P : Prop} (H : Says g P) (h : P) : Ev g true := by
  obtain ⟨b, hb, e⟩ := H
  rw [e.2 h] at hb
  exact hb
theorem Says.no {g : Nat → Option Bool} {P : Prop} (H : Says g P) (h : ¬ P) : Ev g false := by
  obtain ⟨b, hb, e⟩ := H
  cases b with
  | true => exact absurd (e.1 rfl) h
  | false => exact hb
end Go.Proofs.YtkmpkcofddpdgaaDoor.Q
/- Plain facts on the three kinds of small groups: no program in sight. -/
namespace Go.Proofs.YtkmpkcofddpdgaaDoor.Q
open Go Go.RowKit

/-- The groups: of numbers modulo p, of a p-gon, affine of a prime. -/
def gok (k p : Int) : Prop := (k = 0 ∧ 1 ≤ p ∧ p ≤ 62) ∨ (k = 1 ∧ 1 ≤ p ∧ p ≤ 31) ∨ (k = 2 ∧ (p = 2 ∨ p = 3 ∨ p = 5 ∨ p = 7))
def gord (k p : Int) : Int := if k = 0 then p else if k = 1 then 2 * p else p * (p - 1)
def gmul (k p x y : Int) : Int :=
  if k = 0 then (x + y) % p
  else if k = 1 then (if x < p then (y / p) % 2 * p + (x + y % p) % p else (1 + y / p) % 2 * p + (x - p - y % p + p) % p)
  else ((x / p + 1) * (y / p + 1) % p - 1) * p + ((x / p + 1) * (y % p) + x % p) % p

theorem div01 {p x : Int} (hp : 0 < p) (h0 : 0 ≤ x) (h1 : x < 2 * p) : (x < p ∧ x / p = 0 ∧ x % p = x) ∨ (p ≤ x ∧ x / p = 1 ∧ x % p = x - p) := by
  by_cases h : x < p
  · exact .inl ⟨h, Int.ediv_eq_zero_of_lt h0 h, Int.emod_eq_of_lt h0 h⟩
  · obtain ⟨a, b⟩ := (Int.ediv_emod_unique (a := x) (b := p) (q := 1) (r := x - p) hp).2 ⟨by omega, by omega, by omega⟩
    exact .inr ⟨by omega, a, b⟩

theorem mulmod {p a c : Int} (hp : p = 2 ∨ p = 3 ∨ p = 5 ∨ p = 7) (a0 : 1 ≤ a) (a1 : a < p) (c0 : 1 ≤ c) (c1 : c < p) : 1 ≤ a * c % p := by
  have ha : a = 1 ∨ a = 2 ∨ a = 3 ∨ a = 4 ∨ a = 5 ∨ a = 6 := by omega
  rcases hp with rfl | rfl | rfl | rfl <;> rcases ha with rfl | rfl | rfl | rfl | rfl | rfl <;> omega

theorem gord_pos {k p : Int} (h : gok k p) : 0 < gord k p ∧ gord k p ≤ 62 := by
  unfold gord
  rcases h with ⟨rfl, a, b⟩ | ⟨rfl, a, b⟩ | ⟨rfl, rfl | rfl | rfl | rfl⟩
  · simp; omega
  · simp; omega
  all_goals simp

theorem gmul_range {k p x y : Int} (h : gok k p) (x0 : 0 ≤ x) (x1 : x < gord k p) (y0 : 0 ≤ y) (y1 : y < gord k p) : 0 ≤ gmul k p x y ∧ gmul k p x y < gord k p := by
  rcases h with ⟨rfl, a, b⟩ | ⟨rfl, a, b⟩ | ⟨rfl, hp⟩
  · simp only [gmul, gord, if_true] at *
    exact ⟨Int.emod_nonneg _ (by omega), Int.emod_lt_of_pos _ (by omega)⟩
  · simp only [gmul, gord, show ¬ (1 : Int) = 0 by decide, if_true, if_false] at *
    have m1 := Int.emod_nonneg (x + y % p) (show p ≠ 0 by omega)
    have m2 := Int.emod_lt_of_pos (x + y % p) (show 0 < p by omega)
    have m3 := Int.emod_nonneg (x - p - y % p + p) (show p ≠ 0 by omega)
    have m4 := Int.emod_lt_of_pos (x - p - y % p + p) (show 0 < p by omega)
    rcases div01 (by omega) y0 y1 with ⟨_, e, _⟩ | ⟨_, e, _⟩ <;> rw [e] <;> split <;> simp only [show (0 : Int) % 2 = 0 by decide, show (1 : Int) % 2 = 1 by decide, show (1 + 0 : Int) % 2 = 1 by decide, show (1 + 1 : Int) % 2 = 0 by decide, Int.zero_mul, Int.one_mul] <;> omega
  · simp only [gmul, gord, show ¬ (2 : Int) = 0 by decide, show ¬ (2 : Int) = 1 by decide, if_false] at *
    have a0 : 1 ≤ x / p + 1 := by rcases hp with rfl | rfl | rfl | rfl <;> omega
    have a1 : x / p + 1 < p := by rcases hp with rfl | rfl | rfl | rfl <;> omega
    have c0 : 1 ≤ y / p + 1 := by rcases hp with rfl | rfl | rfl | rfl <;> omega
    have c1 : y / p + 1 < p := by rcases hp with rfl | rfl | rfl | rfl <;> omega
    have m := mulmod hp a0 a1 c0 c1
    rcases hp with rfl | rfl | rfl | rfl <;> omega

/-- Every element has an inverse. -/
theorem gmul_inv {k p x : Int} (h : gok k p) (x0 : 0 ≤ x) (x1 : x < gord k p) : ∃ y, 0 ≤ y ∧ y < gord k p ∧ gmul k p x y = 0 := by
  rcases h with ⟨rfl, a, b⟩ | ⟨rfl, a, b⟩ | ⟨rfl, hp⟩
  · simp only [gmul, gord, if_true] at *
    by_cases e : x = 0
    · exact ⟨0, by omega, by omega, by subst e; simp⟩
    · exact ⟨p - x, by omega, by omega, by rw [show x + (p - x) = p by omega]; simp⟩
  · simp only [gmul, gord, show ¬ (1 : Int) = 0 by decide, if_true, if_false] at *
    by_cases hx : x < p
    · simp only [hx, if_true]
      by_cases e : x = 0
      · exact ⟨0, by omega, by omega, by subst e; simp⟩
      · refine ⟨p - x, by omega, by omega, ?_⟩
        rcases div01 (p := p) (x := p - x) (by omega) (by omega) (by omega) with ⟨_, e1, e2⟩ | ⟨_, e1, e2⟩
        · rw [e1, e2, show x + (p - x) = p by omega]; simp
        · omega
    · refine ⟨x, x0, x1, ?_⟩
      simp only [hx, if_false]
      rcases div01 (p := p) (x := x) (by omega) (by omega) (by omega) with ⟨_, e1, e2⟩ | ⟨_, e1, e2⟩
      · omega
      · rw [e1, e2, show x - p - (x - p) + p = p by omega]; simp
  · have key : ∀ p ∈ [2, 3, 5, 7], ∀ x < p * (p - 1), ∃ y, y < p * (p - 1) ∧ gmul 2 (p : Nat) (x : Nat) (y : Nat) = 0 := by decide +kernel
    have hq : ∃ q : Nat, p = q ∧ q ∈ [2, 3, 5, 7] := by rcases hp with rfl | rfl | rfl | rfl <;> exact ⟨_, rfl, by decide⟩
    obtain ⟨q, rfl, hq⟩ := hq
    have g : gord 2 (q : Int) = ((q * (q - 1) : Nat) : Int) := by
      simp at hq
      rcases hq with rfl | rfl | rfl | rfl <;> simp [gord]
    rw [g] at x1 ⊢
    obtain ⟨y, hy, e⟩ := key q hq x.toNat (by omega)
    exact ⟨y, by omega, by omega, by rw [← e, Int.toNat_of_nonneg x0]⟩

/-- The powers of an element. -/
def gpow (k p x : Int) : Nat → Int
  | 0 => x
  | m + 1 => gmul k p (gpow k p x m) x
theorem gpow_range {k p x : Int} (h : gok k p) (x0 : 0 ≤ x) (x1 : x < gord k p) (m : Nat) : 0 ≤ gpow k p x m ∧ gpow k p x m < gord k p := by
  induction m with
  | zero => exact ⟨x0, x1⟩
  | succ m ih => exact gmul_range h ih.1 ih.2 x0 x1
theorem addmod (p x : Int) (m : Nat) (f : Nat → Int) (h0 : f 0 = x % p) (hs : ∀ m, f (m + 1) = (f m + x) % p) : f m = ((m : Int) + 1) * x % p := by
  induction m with
  | zero => simp [h0]
  | succ m ih =>
    rw [hs, ih, Int.emod_add_emod]
    congr 1
    rw [Int.natCast_succ, Int.add_mul ((m : Int) + 1) 1 x]
    omega
/-- One of the first 62 powers is the unit. -/
theorem gpow_zero {k p x : Int} (h : gok k p) (x0 : 0 ≤ x) (x1 : x < gord k p) : ∃ m : Nat, m ≤ 62 ∧ gpow k p x m = 0 := by
  have hh := h
  rcases h with ⟨rfl, a, b⟩ | ⟨rfl, a, b⟩ | ⟨rfl, hp⟩
  · have e := addmod p x (p - 1).toNat (gpow 0 p x) (by simp [gpow, gord] at *; exact (Int.emod_eq_of_lt x0 x1).symm) (fun m => by simp [gpow, gmul])
    refine ⟨(p - 1).toNat, by omega, ?_⟩
    rw [e, show (((p - 1).toNat : Nat) : Int) + 1 = p by omega]
    simp
  · by_cases hx : x < p
    · have low : ∀ m, gpow 1 p x m < p ∧ 0 ≤ gpow 1 p x m ∧ gpow 1 p x (m + 1) = (gpow 1 p x m + x) % p := by
        intro m
        have st : ∀ y, 0 ≤ y → y < p → gmul 1 p y x = (y + x) % p := by
          intro y y0 y1
          simp only [gmul, show ¬ (1 : Int) = 0 by decide, if_true, if_false, y1]
          rw [Int.ediv_eq_zero_of_lt x0 hx, Int.emod_eq_of_lt x0 hx]
          simp
        induction m with
        | zero => exact ⟨hx, x0, st x x0 hx⟩
        | succ m ih =>
          obtain ⟨i1, i2, i3⟩ := ih
          have r1 : gpow 1 p x (m + 1) < p := by rw [i3]; exact Int.emod_lt_of_pos _ (by omega)
          have r2 : 0 ≤ gpow 1 p x (m + 1) := by rw [i3]; exact Int.emod_nonneg _ (by omega)
          exact ⟨r1, r2, st _ r2 r1⟩
      have e := addmod p x (p - 1).toNat (gpow 1 p x) (by simp [gpow]; exact (Int.emod_eq_of_lt x0 hx).symm) (fun m => (low m).2.2)
      refine ⟨(p - 1).toNat, by omega, ?_⟩
      rw [e, show (((p - 1).toNat : Nat) : Int) + 1 = p by omega]
      simp
    · refine ⟨1, by omega, ?_⟩
      simp only [gord, show ¬ (1 : Int) = 0 by decide, if_true, if_false] at x1
      simp only [gpow, gmul, show ¬ (1 : Int) = 0 by decide, if_true, if_false, hx]
      rcases div01 (p := p) (x := x) (by omega) (by omega) (by omega) with ⟨_, e1, e2⟩ | ⟨_, e1, e2⟩
      · omega
      · rw [e1, e2, show x - p - (x - p) + p = p by omega]; simp
  · have key : ∀ p ∈ [2, 3, 5, 7], ∀ x < p * (p - 1), ∃ m, m ≤ 42 ∧ gpow 2 (p : Nat) (x : Nat) m = 0 := by decide +kernel
    have hq : ∃ q : Nat, p = q ∧ q ∈ [2, 3, 5, 7] := by rcases hp with rfl | rfl | rfl | rfl <;> exact ⟨_, rfl, by decide⟩
    obtain ⟨q, rfl, hq⟩ := hq
    have g : gord 2 (q : Int) = ((q * (q - 1) : Nat) : Int) := by
      simp at hq
      rcases hq with rfl | rfl | rfl | rfl <;> simp [gord]
    rw [g] at x1
    obtain ⟨m, hm, e⟩ := key q hq x.toNat (by omega)
    exact ⟨m, by omega, by rw [← e, Int.toNat_of_nonneg x0]⟩
end Go.Proofs.YtkmpkcofddpdgaaDoor.Q
/- The reference's test of a range. -/
namespace Go.Proofs.YtkmpkcofddpdgaaDoor.Q
open Go Go.RowKit Go.Proofs.YtkmpkcofddpdgaaDoor.P
theorem s_in (a b c : Int) : spec_l01In.f a b c = some (decide (b ≤ a ∧ a ≤ c)) := by
  unfold spec_l01In.f
  split
  · exact congrArg some (decide_eq_decide.2 (by omega))
  · exact congrArg some (decide_eq_false (by omega)).symm
end Go.Proofs.YtkmpkcofddpdgaaDoor.Q
/- What the program's and the reference's functions on groups come to. -/
namespace Go.Proofs.YtkmpkcofddpdgaaDoor.Q
open Go Go.RowKit Go.Proofs.YtkmpkcofddpdgaaDoor.P Go.Proofs.YtkmpkcofddpdgaaDoorW.PrintWords Go.Proofs.YtkmpkcofddpdgaaDoorW.PrintMore
set_option linter.unusedSimpArgs false

instance (k p : Int) : Decidable (gok k p) := by unfold gok; infer_instance


theorem s_prime (q : Int) : spec_l05Prime.f q = some (decide (q = 2 ∨ q = 3 ∨ q = 5 ∨ q = 7)) := by
  unfold spec_l05Prime.f
  repeat' split
  all_goals simp [*]
  all_goals rfl
theorem i_prime (q : Int) : impl_isPrime.f q = some (decide (q = 2 ∨ q = 3 ∨ q = 5 ∨ q = 7)) := by
  unfold impl_isPrime.f
  repeat' split
  all_goals simp [*]
  all_goals rfl

theorem s_group (k p : Int) : spec_l05Is.f k p = some (decide (gok k p)) := by
  unfold spec_l05Is.f
  simp only [s_in, s_prime, Option.bind_some]
  repeat' split
  all_goals first | exact congrArg some (decide_eq_decide.2 (by unfold gok; omega)) | exact congrArg some (decide_eq_false (by unfold gok; omega)).symm
theorem i_group (k p : Int) : impl_IsGroup.f k p = some (decide (gok k p)) := by
  unfold impl_IsGroup.f
  simp only [i_prime, Option.bind_some]
  repeat' split
  all_goals first | exact congrArg some (decide_eq_decide.2 (by unfold gok; omega)) | exact congrArg some (decide_eq_false (by unfold gok; omega)).symm

theorem s_order {k p : Int} (h : gok k p) : spec_l05Order.f k p = some (gord k p) := by
  unfold spec_l05Order.f gord
  rcases h with ⟨rfl, a, b⟩ | ⟨rfl, a, b⟩ | ⟨rfl, rfl | rfl | rfl | rfl⟩
  · rfl
  · simp only [show ¬ (1 : Int) = 0 by decide, if_true, if_false]
    rw [w64 (by omega) (by omega)]
  all_goals (unfold wrap64; decide)
theorem i_order {k p : Int} (h : gok k p) : impl_Group_order.f k p = some (gord k p) := by
  unfold impl_Group_order.f gord
  rcases h with ⟨rfl, a, b⟩ | ⟨rfl, a, b⟩ | ⟨rfl, rfl | rfl | rfl | rfl⟩
  · rfl
  · simp only [show ¬ (1 : Int) = 0 by decide, if_true, if_false]
    rw [w64 (by omega) (by omega)]
  all_goals (unfold wrap64; decide)

theorem wl0 : wrap64 0 = 0 := w64 (by omega) (by omega)
theorem wl1 : wrap64 1 = 1 := w64 (by omega) (by omega)
theorem wl2 : wrap64 (1 + 1) = 2 := w64 (by omega) (by omega)
theorem wl01 : wrap64 (0 + 1) = 1 := w64 (by omega) (by omega)
theorem wl10 : wrap64 (1 + 0) = 1 := w64 (by omega) (by omega)
theorem wl00 : wrap64 (0 + 0) = 0 := w64 (by omega) (by omega)

theorem s_times {k p x y : Int} (h : gok k p) (x0 : 0 ≤ x) (x1 : x < gord k p) (y0 : 0 ≤ y) (y1 : y < gord k p) : spec_l05Times.f k p x y = some (gmul k p x y) := by
  unfold spec_l05Times.f gmul
  rcases h with ⟨rfl, a, b⟩ | ⟨rfl, a, b⟩ | ⟨rfl, hp⟩
  · simp only [gord, if_true] at *
    rw [if_neg (by decide), if_neg (by decide), if_neg (by omega), w64 (by omega) (by omega), Int.tmod_eq_emod_of_nonneg (by omega)]
  · simp only [gord, show ¬ (1 : Int) = 0 by decide, if_true, if_false] at *
    rw [if_neg (show ¬ p = 0 by omega)]
    rw [Int.tdiv_eq_ediv_of_nonneg x0, Int.tdiv_eq_ediv_of_nonneg y0, Int.tmod_eq_emod_of_nonneg x0, Int.tmod_eq_emod_of_nonneg y0]
    have m1 := Int.emod_nonneg (x + y % p) (show p ≠ 0 by omega)
    have m2 := Int.emod_lt_of_pos (x + y % p) (show 0 < p by omega)
    have m3 := Int.emod_nonneg (x - p - y % p + p) (show p ≠ 0 by omega)
    have m4 := Int.emod_lt_of_pos (x - p - y % p + p) (show 0 < p by omega)
    have j0 := Int.emod_nonneg y (show p ≠ 0 by omega)
    have j1 := Int.emod_lt_of_pos y (show 0 < p by omega)
    rcases div01 (by omega) x0 x1 with ⟨h1, e1, f1⟩ | ⟨h1, e1, f1⟩ <;> rcases div01 (by omega) y0 y1 with ⟨h2, e2, f2⟩ | ⟨h2, e2, f2⟩ <;> rw [e1, e2, f1]
    · rw [if_neg (by rw [wl0]; decide), if_pos h1]
      rw [wl0, wl00, show Int.tmod 0 2 = 0 by decide, Int.zero_mul, wl0, w64 (a := x + y % p) (by omega) (by omega), Int.tmod_eq_emod_of_nonneg (by omega), w64 (by omega) (by omega)]
      simp
    · rw [if_neg (by rw [wl0]; decide), if_pos h1]
      rw [wl0, wl1, wl01, show Int.tmod 1 2 = 1 by decide, w64 (a := 1 * p) (by omega) (by omega), w64 (a := x + y % p) (by omega) (by omega), Int.tmod_eq_emod_of_nonneg (by omega), w64 (by omega) (by omega)]
      simp
    · rw [if_pos wl1, if_neg (by omega)]
      rw [wl0, wl1, wl10, show Int.tmod 1 2 = 1 by decide, w64 (a := 1 * p) (by omega) (by omega), w64 (a := p - y % p) (by omega) (by omega), show x - p + (p - y % p) = x - p - y % p + p by omega, w64 (a := x - p - y % p + p) (by omega) (by omega), Int.tmod_eq_emod_of_nonneg (by omega), w64 (by omega) (by omega)]
      simp
    · rw [if_pos wl1, if_neg (by omega)]
      rw [wl1, wl2, show Int.tmod 2 2 = 0 by decide, Int.zero_mul, wl0, w64 (a := p - y % p) (by omega) (by omega), show x - p + (p - y % p) = x - p - y % p + p by omega, w64 (a := x - p - y % p + p) (by omega) (by omega), Int.tmod_eq_emod_of_nonneg (by omega), w64 (by omega) (by omega)]
      simp
  · simp only [gord, show ¬ (2 : Int) = 0 by decide, show ¬ (2 : Int) = 1 by decide, if_false, if_true] at *
    rw [if_neg (show ¬ p = 0 by omega)]
    rw [Int.tdiv_eq_ediv_of_nonneg x0, Int.tdiv_eq_ediv_of_nonneg y0, Int.tmod_eq_emod_of_nonneg x0, Int.tmod_eq_emod_of_nonneg y0]
    have a0 : 0 ≤ x / p ∧ x / p ≤ 5 := by rcases hp with rfl | rfl | rfl | rfl <;> omega
    have c0 : 0 ≤ y / p ∧ y / p ≤ 5 := by rcases hp with rfl | rfl | rfl | rfl <;> omega
    have b0 := Int.emod_nonneg x (show p ≠ 0 by omega)
    have b1 := Int.emod_lt_of_pos x (show 0 < p by omega)
    have d0 := Int.emod_nonneg y (show p ≠ 0 by omega)
    have d1 := Int.emod_lt_of_pos y (show 0 < p by omega)
    have p7 : p ≤ 7 ∧ 0 < p := by omega
    have ac0 : 0 ≤ (x / p + 1) * (y / p + 1) := Int.mul_nonneg (by omega) (by omega)
    have ac1 : (x / p + 1) * (y / p + 1) ≤ 6 * 6 := Int.mul_le_mul (by omega) (by omega) (by omega) (by omega)
    have ad0 : 0 ≤ (x / p + 1) * (y % p) := Int.mul_nonneg (by omega) (by omega)
    have ad1 : (x / p + 1) * (y % p) ≤ 6 * 7 := Int.mul_le_mul (by omega) (by omega) (by omega) (by omega)
    have m0 := Int.emod_nonneg ((x / p + 1) * (y / p + 1)) (show p ≠ 0 by omega)
    have m1 := Int.emod_lt_of_pos ((x / p + 1) * (y / p + 1)) (show 0 < p by omega)
    have n0 := Int.emod_nonneg ((x / p + 1) * (y % p) + x % p) (show p ≠ 0 by omega)
    have n1 := Int.emod_lt_of_pos ((x / p + 1) * (y % p) + x % p) (show 0 < p by omega)
    have q0 : ((x / p + 1) * (y / p + 1) % p - 1) * p ≤ 6 * 7 := by rcases hp with rfl | rfl | rfl | rfl <;> omega
    have q1 : -7 ≤ ((x / p + 1) * (y / p + 1) % p - 1) * p := by rcases hp with rfl | rfl | rfl | rfl <;> omega
    rw [w64 (a := x / p) (by omega) (by omega), w64 (a := y / p) (by omega) (by omega), w64 (a := x / p + 1) (by omega) (by omega), w64 (a := y / p + 1) (by omega) (by omega), w64 (a := (x / p + 1) * (y / p + 1)) (by omega) (by omega), w64 (a := (x / p + 1) * (y % p)) (by omega) (by omega), w64 (a := (x / p + 1) * (y % p) + x % p) (by omega) (by omega)]
    rw [Int.tmod_eq_emod_of_nonneg ac0, Int.tmod_eq_emod_of_nonneg (show 0 ≤ (x / p + 1) * (y % p) + x % p by omega)]
    rw [w64 (a := (x / p + 1) * (y / p + 1) % p - 1) (by omega) (by omega), w64 (a := ((x / p + 1) * (y / p + 1) % p - 1) * p) (by omega) (by omega), w64 (by omega) (by omega)]

theorem i_product {k p x y : Int} (h : gok k p) (x0 : 0 ≤ x) (x1 : x < gord k p) (y0 : 0 ≤ y) (y1 : y < gord k p) : impl_Group_product.f k p x y = some (gmul k p x y) := by
  rw [← s_times h x0 x1 y0 y1]
  unfold impl_Group_product.f spec_l05Times.f
  rcases h with ⟨rfl, a, b⟩ | ⟨rfl, a, b⟩ | ⟨rfl, hp⟩
  · rfl
  · simp only [gord, show ¬ (1 : Int) = 0 by decide, if_true, if_false] at *
    simp only [show ¬ p = 0 by omega, if_false]
    rw [Int.tdiv_eq_ediv_of_nonneg x0, Int.tdiv_eq_ediv_of_nonneg y0, Int.tmod_eq_emod_of_nonneg x0, Int.tmod_eq_emod_of_nonneg y0]
    have j0 := Int.emod_nonneg y (show p ≠ 0 by omega)
    have j1 := Int.emod_lt_of_pos y (show 0 < p by omega)
    rcases div01 (by omega) x0 x1 with ⟨h1, e1, f1⟩ | ⟨h1, e1, f1⟩ <;> rw [e1, f1]
    · rw [if_pos h1, if_neg (by rw [wl0]; decide)]
    · rw [if_neg (by omega), if_pos wl1]
      rw [w64 (a := p - y % p) (by omega) (by omega), w64 (a := x - p - y % p) (by omega) (by omega), show x - p + (p - y % p) = x - p - y % p + p by omega]
  · simp only [show ¬ (2 : Int) = 0 by decide, show ¬ (2 : Int) = 1 by decide, if_false, if_true]

/-- The code of a group and elements. -/
def gcode (k p : Int) (l : List Int) : Int := if gok k p then (if ∀ x ∈ l, 0 ≤ x ∧ x < gord k p then 0 else 2) else 1
theorem dropcons (l : List Int) (i : Int) (h0 : 0 ≤ i) (h1 : i < l.length) : l.drop i.toNat = rd l i :: l.drop (i + 1).toNat := by
  rw [List.drop_eq_getElem_cons (by omega : i.toNat < l.length), show (i + 1).toNat = i.toNat + 1 by omega]
  simp [rd, List.getD_eq_getElem?_getD, List.getElem?_eq_getElem (show i.toNat < l.length by omega)]

theorem s_elems_l0 {k p : Int} (h : gok k p) (l : List Int) (hl : l.length < 9223372036854775807) (d : Nat) : ∀ i : Int, 0 ≤ i → i ≤ l.length → l.length - i = d →
    Ev (fun K => spec_l05Elements.l0 K l i k p) (if ∀ x ∈ l.drop i.toNat, 0 ≤ x ∧ x < gord k p then 0 else 2) := by
  have ho := gord_pos h
  induction d with
  | zero =>
    intro i h0 h1 hd
    rw [List.drop_of_length_le (by omega)]
    refine ev_k ?_
    simp only [spec_l05Elements.l0]
    exact ev_neg (by omega) (ev_some (by simp))
  | succ d ih =>
    intro i h0 h1 hd
    rw [dropcons l i h0 (by omega)]
    have ih := ih (i + 1) (by omega) (by omega) (by omega)
    refine ev_k ?_
    simp only [spec_l05Elements.l0, s_order h, s_in, Option.bind_some]
    refine ev_pos (by omega) (ev_pos h0 ?_)
    rw [w64 (a := gord k p - 1) (by omega) (by omega), w64 (a := i + 1) (by omega) (by omega)]
    by_cases hc : 0 ≤ rd l i ∧ rd l i ≤ gord k p - 1
    · refine ev_pos (decide_eq_true hc) ?_
      have e : (∀ x ∈ rd l i :: l.drop (i + 1).toNat, 0 ≤ x ∧ x < gord k p) ↔ ∀ x ∈ l.drop (i + 1).toNat, 0 ≤ x ∧ x < gord k p := by
        rw [List.forall_mem_cons]
        exact ⟨fun z => z.2, fun z => ⟨by omega, z⟩⟩
      simp only [e]
      exact ih
    · refine ev_neg (by simpa using hc) (ev_some ?_)
      rw [if_neg]
      rw [List.forall_mem_cons]
      exact fun z => hc (by omega)
theorem s_elems (k p : Int) (l : List Int) (hl : l.length < 9223372036854775807) : Ev (fun K => spec_l05Elements.f K k p l) (gcode k p l) := by
  unfold spec_l05Elements.f gcode
  rw [s_group]
  simp only [Option.bind_some]
  by_cases h : gok k p
  · rw [if_pos h]
    exact ev_pos (decide_eq_true h) (by simpa using s_elems_l0 h l hl l.length 0 (by omega) (by omega) (by omega))
  · rw [if_neg h]
    exact ev_neg (by simpa using h) (ev_some rfl)

theorem i_code_l0 {k p : Int} (h : gok k p) (l : List Int) (hl : l.length < 9223372036854775807) (d : Nat) : ∀ i : Int, 0 ≤ i → i ≤ l.length → l.length - i = d →
    Ev (fun K => impl_groupCode.l0 K l l.length i k p) (if ∀ x ∈ l.drop i.toNat, 0 ≤ x ∧ x < gord k p then 0 else 2) := by
  induction d with
  | zero =>
    intro i h0 h1 hd
    rw [List.drop_of_length_le (by omega)]
    refine ev_k ?_
    simp only [impl_groupCode.l0]
    exact ev_neg (by omega) (ev_some (by simp))
  | succ d ih =>
    intro i h0 h1 hd
    rw [dropcons l i h0 (by omega)]
    have ih := ih (i + 1) (by omega) (by omega) (by omega)
    refine ev_k ?_
    simp only [impl_groupCode.l0, i_order h, Option.bind_some]
    refine ev_pos (by omega) (ev_pos h0 (ev_pos (by omega) ?_))
    rw [w64 (a := i + 1) (by omega) (by omega)]
    by_cases hc : rd l i < 0
    · refine ev_pos hc (ev_some ?_)
      rw [if_neg]
      rw [List.forall_mem_cons]
      exact fun z => by omega
    · refine ev_neg hc ?_
      by_cases hd : rd l i ≥ gord k p
      · refine ev_pos hd (ev_some ?_)
        rw [if_neg]
        rw [List.forall_mem_cons]
        exact fun z => by omega
      · refine ev_neg hd ?_
        have e : (∀ x ∈ rd l i :: l.drop (i + 1).toNat, 0 ≤ x ∧ x < gord k p) ↔ ∀ x ∈ l.drop (i + 1).toNat, 0 ≤ x ∧ x < gord k p := by
          rw [List.forall_mem_cons]
          exact ⟨fun z => z.2, fun z => ⟨by omega, z⟩⟩
        simp only [e]
        exact ih
theorem i_code (k p : Int) (l : List Int) (hl : l.length < 9223372036854775807) : Ev (fun K => impl_groupCode.f K k p l) (gcode k p l) := by
  unfold impl_groupCode.f gcode
  rw [i_group]
  simp only [Option.bind_some]
  by_cases h : gok k p
  · rw [if_pos h]
    exact ev_pos (decide_eq_true h) (by simpa using i_code_l0 h l hl l.length 0 (by omega) (by omega) (by omega))
  · rw [if_neg h]
    exact ev_neg (by simpa using h) (ev_some rfl)
theorem gcode_zero {k p : Int} {l : List Int} (h : gcode k p l = 0) : gok k p ∧ ∀ x ∈ l, 0 ≤ x ∧ x < gord k p := by
  unfold gcode at h
  split at h
  · rename_i hg
    split at h
    · rename_i hl
      exact ⟨hg, hl⟩
    · omega
  · omega
end Go.Proofs.YtkmpkcofddpdgaaDoor.Q
/- The least inverse, found by both. -/
namespace Go.Proofs.YtkmpkcofddpdgaaDoor.Q
open Go Go.RowKit Go.Proofs.YtkmpkcofddpdgaaDoor.P Go.Proofs.YtkmpkcofddpdgaaDoorW.PrintWords Go.Proofs.YtkmpkcofddpdgaaDoorW.PrintMore
theorem inv_from {k p x : Int} (hg : gok k p) (x0 : 0 ≤ x) (x1 : x < gord k p) (z : Int) (z1 : z < gord k p) (hz : gmul k p x z = 0) (d : Nat) : ∀ y : Int, 0 ≤ y → y ≤ z → z - y = d →
    ∃ r, (0 ≤ r ∧ r < gord k p) ∧ gmul k p x r = 0 ∧ (∀ q, y ≤ q → q < r → gmul k p x q ≠ 0) ∧ Ev (fun n => spec_l05Inverse.l0 n x y k p) r ∧ Ev (fun n => impl_Group_inverse.l0 n x y k p) r := by
  have ho := gord_pos hg
  induction d with
  | zero =>
    intro y y0 y1 hd
    obtain rfl : y = z := by omega
    refine ⟨y, ⟨y0, z1⟩, hz, fun q _ _ => by omega, ?_, ?_⟩
    · refine ev_k ?_
      simp only [spec_l05Inverse.l0, s_times hg x0 x1 y0 z1, Option.bind_some]
      exact ev_pos hz (Ev.now _)
    · refine ev_k ?_
      simp only [impl_Group_inverse.l0, i_product hg x0 x1 y0 z1, Option.bind_some]
      exact ev_pos hz (Ev.now _)
  | succ d ih =>
    intro y y0 y1 hd
    by_cases hy : gmul k p x y = 0
    · refine ⟨y, ⟨y0, by omega⟩, hy, fun q _ _ => by omega, ?_, ?_⟩
      · refine ev_k ?_
        simp only [spec_l05Inverse.l0, s_times hg x0 x1 y0 (show y < gord k p by omega), Option.bind_some]
        exact ev_pos hy (Ev.now _)
      · refine ev_k ?_
        simp only [impl_Group_inverse.l0, i_product hg x0 x1 y0 (show y < gord k p by omega), Option.bind_some]
        exact ev_pos hy (Ev.now _)
    · obtain ⟨r, r01, rz, rm, hs, hi⟩ := ih (y + 1) (by omega) (by omega) (by omega)
      refine ⟨r, r01, rz, fun q q0 q1 => if e : q = y then by rw [e]; exact hy else rm q (by omega) q1, ?_, ?_⟩
      · refine ev_k ?_
        simp only [spec_l05Inverse.l0, s_times hg x0 x1 y0 (show y < gord k p by omega), Option.bind_some]
        refine ev_neg hy ?_
        rw [w64 (a := y + 1) (by omega) (by omega)]
        exact hs
      · refine ev_k ?_
        simp only [impl_Group_inverse.l0, i_product hg x0 x1 y0 (show y < gord k p by omega), Option.bind_some]
        refine ev_neg hy ?_
        rw [w64 (a := y + 1) (by omega) (by omega)]
        exact hi
theorem inverses {k p x : Int} (hg : gok k p) (x0 : 0 ≤ x) (x1 : x < gord k p) :
    ∃ r, (0 ≤ r ∧ r < gord k p) ∧ gmul k p x r = 0 ∧ (∀ q, 0 ≤ q → q < r → gmul k p x q ≠ 0) ∧ Ev (fun n => spec_l05Inverse.f n k p x) r ∧ Ev (fun n => impl_Group_inverse.f n k p x) r := by
  obtain ⟨z, z0, z1, hz⟩ := gmul_inv hg x0 x1
  unfold spec_l05Inverse.f impl_Group_inverse.f
  exact inv_from hg x0 x1 z z1 hz z.toNat 0 (by omega) z0 (by omega)
end Go.Proofs.YtkmpkcofddpdgaaDoor.Q
/- Plain facts on rows of bits: no program in sight. -/
namespace Go.Proofs.YtkmpkcofddpdgaaDoor.Q
open Go Go.RowKit Go.Proofs.YtkmpkcofddpdgaaDoorW.PrintWords Go.Proofs.YtkmpkcofddpdgaaDoorW.PrintLast Go.Proofs.YtkmpkcofddpdgaaDoorW.PrintMore

/-- Digit i of a whole number. -/
def tb (x i : Int) : Bool := decide (x / 2 ^ i.toNat % 2 = 1)

theorem wu64 {a : Int} (h0 : 0 ≤ a) (h1 : a < 18446744073709551616) : IntKind.u64.wrap a = a := by
  simp [IntKind.wrap, IntKind.bits, IntKind.signed]
  omega
theorem w64' (a : Int) : IntKind.i64.wrap a = wrap64 a := by
  rw [IntKind.wrap_i64]
  unfold wrap64
  rfl
theorem and_one (a : Int) : bits .and .i64 a 1 = a % 2 := by
  have e : (BitVec.ofInt 64 a &&& BitVec.ofInt 64 1).toNat = (a % 2).toNat := by
    rw [BitVec.toNat_and, show (BitVec.ofInt 64 1).toNat = 1 from rfl, Nat.and_one_is_mod, BitVec.toNat_ofInt]
    omega
  show IntKind.i64.wrap (((BitVec.ofInt 64 a &&& BitVec.ofInt 64 1).toNat : Nat) : Int) = a % 2
  rw [e, w64']
  rw [w64] <;> omega
theorem shr_at {x i : Int} (i0 : 0 ≤ i) (i1 : i ≤ 63) : shr .i64 x i = x / 2 ^ i.toNat := by
  unfold shr
  rw [Nat.min_eq_left (by simp [IntKind.bits]; omega)]
theorem bit_at {x i : Int} (i0 : 0 ≤ i) (i1 : i ≤ 63) : bits .and .i64 (shr .i64 x i) 1 = if tb x i then 1 else 0 := by
  rw [and_one, shr_at i0 i1]
  unfold tb
  have := Int.emod_two_eq (x / 2 ^ i.toNat)
  rcases this with h | h <;> simp [h]
theorem bit_is {x i : Int} (i0 : 0 ≤ i) (i1 : i ≤ 63) : (bits .and .i64 (shr .i64 x i) 1 == 1) = tb x i := by
  rw [bit_at i0 i1]
  cases tb x i <;> rfl
theorem bit_eq {x y i j : Int} (i0 : 0 ≤ i) (i1 : i ≤ 63) (j0 : 0 ≤ j) (j1 : j ≤ 63) : bits .and .i64 (shr .i64 x i) 1 = bits .and .i64 (shr .i64 y j) 1 ↔ tb x i = tb y j := by
  rw [bit_at i0 i1, bit_at j0 j1]
  cases tb x i <;> cases tb y j <;> simp
theorem two_pow_le {n : Int} (h0 : 0 ≤ n) (h1 : n ≤ 62) : (1 : Int) ≤ 2 ^ n.toNat ∧ (2 : Int) ^ n.toNat ≤ 4611686018427387904 := by
  have e : ((2 : Int) ^ n.toNat) = ((2 ^ n.toNat : Nat) : Int) := by simp
  have a : 2 ^ n.toNat ≤ 2 ^ 62 := Nat.pow_le_pow_right (by decide) (by omega)
  have b : 1 ≤ 2 ^ n.toNat := Nat.one_le_two_pow
  rw [e]
  omega
theorem shl_one {n : Int} (h0 : 0 ≤ n) (h1 : n ≤ 62) : shl .i64 1 n = 2 ^ n.toNat := by
  have := two_pow_le h0 h1
  unfold shl
  rw [Nat.min_eq_left (by simp [IntKind.bits]; omega), Int.one_mul, w64', w64] <;> omega
theorem tb_nat (x i : Nat) : tb (x : Int) (i : Int) = x.testBit i := by
  unfold tb
  rw [Nat.testBit_eq_decide_div_mod_eq]
  have : ((x : Int) / 2 ^ i) % 2 = ((x / 2 ^ i % 2 : Nat) : Int) := by simp
  rw [Int.toNat_natCast, this]
  exact decide_eq_decide.2 (by omega)
theorem tb_toNat {x i : Int} (h0 : 0 ≤ x) (i0 : 0 ≤ i) : tb x i = x.toNat.testBit i.toNat := by
  rw [← tb_nat, Int.toNat_of_nonneg h0, Int.toNat_of_nonneg i0]
/-- A row below 2^n has no digit from n on. -/
theorem tb_high {x i n : Int} (h0 : 0 ≤ x) (h1 : x < 2 ^ n.toNat) (n0 : 0 ≤ n) (hi : n ≤ i) : tb x i = false := by
  rw [tb_toNat h0 (by omega)]
  refine Nat.testBit_lt_two_pow ?_
  have e : ((2 : Int) ^ n.toNat) = ((2 ^ n.toNat : Nat) : Int) := by simp
  rw [e] at h1
  have : x.toNat < 2 ^ n.toNat := by omega
  exact Nat.lt_of_lt_of_le this (Nat.pow_le_pow_right (by decide) (by omega))
/-- Rows with the same digits are the same. -/
theorem tb_ext {x y n : Int} (x0 : 0 ≤ x) (x1 : x < 2 ^ n.toNat) (y0 : 0 ≤ y) (y1 : y < 2 ^ n.toNat) (n0 : 0 ≤ n) (h : ∀ i, 0 ≤ i → i < n → tb x i = tb y i) : x = y := by
  have : x.toNat = y.toNat := by
    refine Nat.eq_of_testBit_eq fun i => ?_
    by_cases hi : (i : Int) < n
    · have := h i (by omega) hi
      rwa [tb_toNat x0 (by omega), tb_toNat y0 (by omega), Int.toNat_natCast] at this
    · have a := tb_high (i := i) x0 x1 n0 (by omega)
      have b := tb_high (i := i) y0 y1 n0 (by omega)
      rw [tb_toNat x0 (by omega), Int.toNat_natCast] at a
      rw [tb_toNat y0 (by omega), Int.toNat_natCast] at b
      rw [a, b]
  omega
theorem and_nat (a b : Nat) (ha : a < 2 ^ 63) (hb : b < 2 ^ 63) : bits .and .i64 a b = ((a &&& b : Nat) : Int) :=
  (bits_nat .i64 63 (by decide) (fun n h0 h1 => by rw [w64', w64] <;> omega) a b ha hb).1
theorem or_nat (a b : Nat) (ha : a < 2 ^ 63) (hb : b < 2 ^ 63) : bits .or .i64 a b = ((a ||| b : Nat) : Int) :=
  (bits_nat .i64 63 (by decide) (fun n h0 h1 => by rw [w64', w64] <;> omega) a b ha hb).2
theorem uand_nat (a b : Nat) (ha : a < 2 ^ 64) (hb : b < 2 ^ 64) : bits .and .u64 a b = ((a &&& b : Nat) : Int) :=
  (bits_nat .u64 64 (by decide) (fun n h0 h1 => wu64 h0 (by omega)) a b ha hb).1
set_option linter.unusedVariables false in
theorem andNot_nat (a b : Nat) (ha : a < 2 ^ 63) (hb : b < 2 ^ 63) : ∃ c : Nat, bits .andNot .i64 a b = (c : Int) ∧ c < 2 ^ 63 ∧ ∀ i, c.testBit i = (a.testBit i && !b.testBit i) := by
  refine ⟨(BitVec.ofInt 64 a &&& ~~~ BitVec.ofInt 64 b).toNat, ?_, ?_, ?_⟩
  · show IntKind.i64.wrap (((BitVec.ofInt 64 a &&& ~~~ BitVec.ofInt 64 b).toNat : Nat) : Int) = _
    have : (BitVec.ofInt 64 a &&& ~~~ BitVec.ofInt 64 b).toNat < 2 ^ 63 := by
      simp only [BitVec.ofInt_natCast, BitVec.toNat_and, BitVec.toNat_ofNat]
      have : (a % 2 ^ 64 &&& (~~~ BitVec.ofNat 64 b).toNat) ≤ a % 2 ^ 64 := Nat.and_le_left
      have : a % 2 ^ 64 = a := Nat.mod_eq_of_lt (by omega)
      omega
    rw [w64', w64] <;> omega
  · simp only [BitVec.ofInt_natCast, BitVec.toNat_and, BitVec.toNat_ofNat]
    have : (a % 2 ^ 64 &&& (~~~ BitVec.ofNat 64 b).toNat) ≤ a % 2 ^ 64 := Nat.and_le_left
    have : a % 2 ^ 64 = a := Nat.mod_eq_of_lt (by omega)
    omega
  · intro i
    simp only [BitVec.ofInt_natCast]
    rw [BitVec.testBit_toNat, BitVec.getLsbD_and, BitVec.getLsbD_not, BitVec.getLsbD_ofNat, BitVec.getLsbD_ofNat]
    by_cases hi : i < 64
    · simp [hi]
    · simp [hi]
      intro h
      have := Nat.testBit_lt_two_pow (Nat.lt_of_lt_of_le ha (Nat.pow_le_pow_right (by decide) (show 63 ≤ i by omega)))
      simp [this] at h
end Go.Proofs.YtkmpkcofddpdgaaDoor.Q
/- Graphs by rows of bits, plainly: no program in sight. -/
namespace Go.Proofs.YtkmpkcofddpdgaaDoor.Q
open Go Go.RowKit Go.Proofs.YtkmpkcofddpdgaaDoorW.PrintWords

/-- Rows of n vertices. -/
def rows (n : Int) (l : List Int) : Prop := 1 ≤ n ∧ n ≤ 62 ∧ (l.length : Int) = n ∧ ∀ v, 0 ≤ v → v < n → 0 ≤ rd l v ∧ rd l v < 2 ^ n.toNat
/-- A graph: no loops, and the same both ways. -/
def isG (n : Int) (l : List Int) : Prop := rows n l ∧ (∀ v, 0 ≤ v → v < n → tb (rd l v) v = false) ∧ ∀ v w, 0 ≤ v → v < n → 0 ≤ w → w < n → tb (rd l v) w = tb (rd l w) v

theorem rows.nat {n : Int} {l : List Int} (h : rows n l) {v : Int} (h0 : 0 ≤ v) (h1 : v < n) : ∃ x : Nat, rd l v = (x : Int) ∧ x < 2 ^ n.toNat ∧ x < 2 ^ 62 := by
  obtain ⟨a, b, c, d⟩ := h
  obtain ⟨d0, d1⟩ := d v h0 h1
  have e : ((2 : Int) ^ n.toNat) = ((2 ^ n.toNat : Nat) : Int) := by simp
  have p : 2 ^ n.toNat ≤ 2 ^ 62 := Nat.pow_le_pow_right (by decide) (by omega)
  rw [e] at d1
  exact ⟨(rd l v).toNat, by omega, by omega, by omega⟩
end Go.Proofs.YtkmpkcofddpdgaaDoor.Q
/- Rows that are built bit by bit: no program in sight. -/
namespace Go.Proofs.YtkmpkcofddpdgaaDoor.Q
open Go Go.RowKit Go.Proofs.YtkmpkcofddpdgaaDoorW.PrintWords Go.Proofs.YtkmpkcofddpdgaaDoorW.PrintMore

/-- n rows of n digits, of which those with P are set. -/
def Mx (n : Int) (l : List Int) (P : Int → Int → Prop) : Prop := (l.length : Int) = n ∧ ∀ v, 0 ≤ v → v < n → (0 ≤ rd l v ∧ rd l v < 2 ^ n.toNat) ∧ ∀ w, 0 ≤ w → w < n → (tb (rd l v) w = true ↔ P v w)

theorem Mx.imp {n : Int} {l : List Int} {P Q : Int → Int → Prop} (h : Mx n l P) (e : ∀ v w, 0 ≤ v → v < n → 0 ≤ w → w < n → (P v w ↔ Q v w)) : Mx n l Q :=
  ⟨h.1, fun v v0 v1 => ⟨(h.2 v v0 v1).1, fun w w0 w1 => ((h.2 v v0 v1).2 w w0 w1).trans (e v w v0 v1 w0 w1)⟩⟩
theorem rd_ext {a b : List Int} (hl : a.length = b.length) (h : ∀ v : Int, 0 ≤ v → v < a.length → rd a v = rd b v) : a = b := by
  refine List.ext_getElem hl fun i h1 h2 => ?_
  have := h i (by omega) (by omega)
  simpa [rd, List.getD_eq_getElem?_getD, h1, h2] using this
theorem Mx.eq {n : Int} {a b : List Int} {P : Int → Int → Prop} (ha : Mx n a P) (hb : Mx n b P) (n0 : 0 ≤ n) : a = b := by
  refine rd_ext (by have := ha.1; have := hb.1; omega) fun v v0 v1 => ?_
  have v1 : v < n := by have := ha.1; omega
  obtain ⟨⟨a0, a1⟩, a2⟩ := ha.2 v v0 v1
  obtain ⟨⟨b0, b1⟩, b2⟩ := hb.2 v v0 v1
  exact tb_ext a0 a1 b0 b1 n0 fun i i0 i1 => Bool.eq_iff_iff.2 ((a2 i i0 i1).trans (b2 i i0 i1).symm)
theorem Mx.zero (n : Int) (n0 : 0 ≤ n) : Mx n (List.replicate n.toNat 0) (fun _ _ => False) := by
  refine ⟨by simp; omega, fun v v0 v1 => ?_⟩
  have e : rd (List.replicate n.toNat 0) v = 0 := by
    have : v.toNat < n.toNat := by omega
    simp [rd, List.getD_eq_getElem?_getD, this]
  rw [e]
  have p : (0 : Int) < 2 ^ n.toNat := Int.pow_pos (by decide)
  refine ⟨⟨by omega, p⟩, fun w w0 w1 => ?_⟩
  simp [tb]
theorem Mx.rows {n : Int} {l : List Int} {P : Int → Int → Prop} (h : Mx n l P) (n1 : 1 ≤ n) (n2 : n ≤ 62) : rows n l := ⟨n1, n2, h.1, fun v v0 v1 => (h.2 v v0 v1).1⟩
theorem mx_of {n : Int} {l : List Int} (h : rows n l) : Mx n l (fun v w => tb (rd l v) w = true) := ⟨h.2.2.1, fun v v0 v1 => ⟨h.2.2.2 v v0 v1, fun _ _ _ => Iff.rfl⟩⟩
theorem rd_set {l : List Int} {i j : Int} (x : Int) (i0 : 0 ≤ i) (i1 : i < l.length) (j0 : 0 ≤ j) : rd (l.set i.toNat x) j = if j = i then x else rd l j := by
  simp only [rd, List.getD_eq_getElem?_getD, List.getElem?_set]
  by_cases h : j = i
  · subst h
    rw [if_pos rfl, if_pos rfl, if_pos (by omega)]
    rfl
  · rw [if_neg h, if_neg (by omega)]
/-- A digit set in a row. -/
theorem or_one {n x j : Int} (n2 : n ≤ 62) (x0 : 0 ≤ x) (x1 : x < 2 ^ n.toNat) (j0 : 0 ≤ j) (j1 : j < n) : (0 ≤ bits .or .i64 x (shl .i64 1 j) ∧ bits .or .i64 x (shl .i64 1 j) < 2 ^ n.toNat) ∧ ∀ w, 0 ≤ w → (tb (bits .or .i64 x (shl .i64 1 j)) w = true ↔ tb x w = true ∨ w = j) := by
  have e : ((2 : Int) ^ n.toNat) = ((2 ^ n.toNat : Nat) : Int) := by simp
  have p : 2 ^ n.toNat ≤ 2 ^ 62 := Nat.pow_le_pow_right (by decide) (by omega)
  have q : 2 ^ j.toNat < 2 ^ n.toNat := Nat.pow_lt_pow_right (by decide) (by omega)
  rw [e] at x1 ⊢
  obtain ⟨y, rfl⟩ := Int.eq_ofNat_of_zero_le x0
  rw [shl_one j0 (by omega), show ((2 : Int) ^ j.toNat) = ((2 ^ j.toNat : Nat) : Int) by simp, or_nat y (2 ^ j.toNat) (by omega) (by omega)]
  refine ⟨⟨by omega, ?_⟩, fun w w0 => ?_⟩
  · have := Nat.or_lt_two_pow (show y < 2 ^ n.toNat by omega) q
    omega
  · obtain ⟨w, rfl⟩ := Int.eq_ofNat_of_zero_le w0
    rw [tb_nat, tb_nat, Nat.testBit_or, Nat.testBit_two_pow]
    simp only [Bool.or_eq_true, decide_eq_true_eq]
    refine or_congr Iff.rfl ?_
    omega
theorem Mx.or {n : Int} {l : List Int} {P : Int → Int → Prop} (h : Mx n l P) (n2 : n ≤ 62) {i j : Int} (i0 : 0 ≤ i) (i1 : i < n) (j0 : 0 ≤ j) (j1 : j < n) : Mx n (l.set i.toNat (bits .or .i64 (rd l i) (shl .i64 1 j))) (fun v w => P v w ∨ (v = i ∧ w = j)) := by
  refine ⟨by simpa using h.1, fun v v0 v1 => ?_⟩
  rw [rd_set _ i0 (by have := h.1; omega) v0]
  obtain ⟨⟨a0, a1⟩, a2⟩ := h.2 v v0 v1
  by_cases hv : v = i
  · rw [if_pos hv]
    subst hv
    obtain ⟨b, b2⟩ := or_one n2 a0 a1 j0 j1
    exact ⟨b, fun w w0 w1 => (b2 w w0).trans (or_congr (a2 w w0 w1) (by simp))⟩
  · rw [if_neg hv]
    exact ⟨⟨a0, a1⟩, fun w w0 w1 => (a2 w w0 w1).trans (by simp [hv])⟩
end Go.Proofs.YtkmpkcofddpdgaaDoor.Q
/- Whether a list holds a number. -/
namespace Go.Proofs.YtkmpkcofddpdgaaDoor.Q
open Go Go.RowKit Go.Proofs.YtkmpkcofddpdgaaDoor.P Go.Proofs.YtkmpkcofddpdgaaDoorW.PrintWords Go.Proofs.YtkmpkcofddpdgaaDoorW.PrintMore
theorem r_index (l : List Int) (hl : l.length ≤ 1152921504606846976) (x : Int) (d : Nat) : ∀ i : Int, 0 ≤ i → i ≤ l.length → l.length - i = d → ∃ r, Ev (fun k => slices_Index_int64_int64.l0 k l x l.length i) r ∧ (0 ≤ r ↔ ∃ j : Int, i ≤ j ∧ j < l.length ∧ rd l j = x) := by
  induction d with
  | zero =>
    intro i i0 i1 hd
    refine ⟨-1, ev_k ?_, fun z => by omega, fun ⟨j, a, b, _⟩ => by omega⟩
    simp only [slices_Index_int64_int64.l0]
    exact ev_neg (by omega) (Ev.now _)
  | succ d ih =>
    intro i i0 i1 hd
    by_cases h : x = rd l i
    · refine ⟨i, ev_k ?_, fun _ => ⟨i, by omega, by omega, h.symm⟩, fun _ => i0⟩
      simp only [slices_Index_int64_int64.l0]
      exact ev_pos (by omega) (ev_pos i0 (ev_pos (by omega) (ev_pos h (Ev.now _))))
    · obtain ⟨r, hr, e⟩ := ih (i + 1) (by omega) (by omega) (by omega)
      refine ⟨r, ev_k ?_, e.trans ⟨fun ⟨j, a, b, c⟩ => ⟨j, by omega, b, c⟩, fun ⟨j, a, b, c⟩ => ⟨j, by
        by_cases z : j = i
        · rw [z] at c; exact absurd c.symm h
        · omega, b, c⟩⟩⟩
      simp only [slices_Index_int64_int64.l0]
      rw [w64 (a := i + 1) (by omega) (by omega)]
      exact ev_pos (by omega) (ev_pos i0 (ev_pos (by omega) (ev_neg h hr)))
theorem r_contains (l : List Int) (hl : l.length ≤ 1152921504606846976) (x : Int) : ∃ b : Bool, Ev (fun k => slices_Contains_int64_int64.f k l x) b ∧ (b = true ↔ ∃ j : Int, 0 ≤ j ∧ j < l.length ∧ rd l j = x) := by
  obtain ⟨r, hr, e⟩ := r_index l hl x l.length 0 (by omega) (by omega) (by omega)
  refine ⟨decide (r ≥ 0), ?_, by rw [decide_eq_true_iff]; exact e⟩
  unfold slices_Contains_int64_int64.f slices_Index_int64_int64.f
  exact Ev.bind hr (Ev.now _)
theorem rd_getElem {l : List Int} {i : Int} (h : i.toNat < l.length) : rd l i = l[i.toNat] := by
  simp only [rd, List.getD_eq_getElem?_getD, List.getElem?_eq_getElem h]
  rfl
theorem rd_mem' {q : List Int} {i : Int} (i0 : 0 ≤ i) (i1 : i < q.length) : rd q i ∈ q := by
  have hu : i.toNat < q.length := by omega
  have : rd q i = q[i.toNat] := by simp [rd, List.getD_eq_getElem?_getD, List.getElem?_eq_getElem hu]
  rw [this]
  exact List.getElem_mem _
theorem mem_rd' {q : List Int} {u : Int} (h : u ∈ q) : ∃ i : Int, (0 ≤ i ∧ i < q.length) ∧ rd q i = u := by
  obtain ⟨i, hi, rfl⟩ := List.getElem_of_mem h
  exact ⟨i, by omega, by simp [rd, List.getD_eq_getElem?_getD, List.getElem?_eq_getElem hi]⟩
theorem r_mem (l : List Int) (hl : l.length ≤ 1152921504606846976) (x : Int) : Says (fun k => slices_Contains_int64_int64.f k l x) (x ∈ l) := by
  obtain ⟨b, hb, e⟩ := r_contains l hl x
  exact ⟨b, hb, e.trans ⟨fun ⟨j, a, c, d⟩ => by rw [← d]; exact rd_mem' a c, fun h => by obtain ⟨i, hi, e⟩ := mem_rd' h; exact ⟨i, hi.1, hi.2, e⟩⟩⟩
end Go.Proofs.YtkmpkcofddpdgaaDoor.Q
/- Connection sets: the reference's (the set is its own closure) and the program's (rising, without the unit, with the inverses). -/
namespace Go.Proofs.YtkmpkcofddpdgaaDoor.Q
open Go Go.RowKit Go.Proofs.YtkmpkcofddpdgaaDoor.P Go.Proofs.YtkmpkcofddpdgaaDoorW.PrintWords Go.Proofs.YtkmpkcofddpdgaaDoorW.PrintMore
open Classical in
/-- The least inverse. -/
noncomputable def ginv (k p x : Int) : Int := if h : gok k p ∧ 0 ≤ x ∧ x < gord k p then (inverses h.1 h.2.1 h.2.2).choose else 0
theorem ginv_spec {k p x : Int} (hg : gok k p) (x0 : 0 ≤ x) (x1 : x < gord k p) : (0 ≤ ginv k p x ∧ ginv k p x < gord k p) ∧ gmul k p x (ginv k p x) = 0 ∧ (∀ q, 0 ≤ q → q < ginv k p x → gmul k p x q ≠ 0) ∧ Ev (fun n => spec_l05Inverse.f n k p x) (ginv k p x) ∧ Ev (fun n => impl_Group_inverse.f n k p x) (ginv k p x) := by
  unfold ginv
  rw [dif_pos ⟨hg, x0, x1⟩]
  exact (inverses hg x0 x1).choose_spec
theorem gmul_unit {k p x : Int} (h : gok k p) (x0 : 0 ≤ x) (x1 : x < gord k p) : gmul k p x 0 = x := by
  rcases h with ⟨rfl, a, b⟩ | ⟨rfl, a, b⟩ | ⟨rfl, hp⟩
  · simp only [gmul, gord, if_true] at *
    rw [Int.add_zero, Int.emod_eq_of_lt x0 x1]
  · simp only [gmul, gord, show ¬ (1 : Int) = 0 by decide, if_true, if_false, Int.zero_ediv, Int.zero_emod] at *
    by_cases hx : x < p
    · rw [if_pos hx]
      simp [Int.emod_eq_of_lt x0 hx]
    · rw [if_neg hx, show x - p - 0 + p = x - p + p by omega]
      rw [show (1 + 0 : Int) % 2 = 1 by decide, Int.add_emod_right, Int.emod_eq_of_lt (by omega) (by omega)]
      omega
  · have key : ∀ p ∈ [2, 3, 5, 7], ∀ x < p * (p - 1), gmul 2 (p : Nat) (x : Nat) 0 = (x : Nat) := by decide +kernel
    have hq : ∃ q : Nat, p = q ∧ q ∈ [2, 3, 5, 7] := by rcases hp with rfl | rfl | rfl | rfl <;> exact ⟨_, rfl, by decide⟩
    obtain ⟨q, rfl, hq⟩ := hq
    have g : gord 2 (q : Int) = ((q * (q - 1) : Nat) : Int) := by
      simp at hq
      rcases hq with rfl | rfl | rfl | rfl <;> simp [gord]
    rw [g] at x1
    have := key q hq x.toNat (by omega)
    rwa [Int.toNat_of_nonneg x0] at this
theorem ginv_ne {k p x : Int} (hg : gok k p) (x0 : 0 ≤ x) (x1 : x < gord k p) (hx : x ≠ 0) : ginv k p x ≠ 0 := by
  intro e
  have := (ginv_spec hg x0 x1).2.1
  rw [e, gmul_unit hg x0 x1] at this
  exact hx this
/-- Rising lists of the same members are the same. -/
theorem asc_ext : ∀ (a b : List Int), a.Pairwise (· < ·) → b.Pairwise (· < ·) → (∀ x, x ∈ a ↔ x ∈ b) → a = b := by
  intro a
  induction a with
  | nil =>
    intro b _ _ h
    cases b with
    | nil => rfl
    | cons y b => exact absurd ((h y).2 (by simp)) (by simp)
  | cons x a ih =>
    intro b ha hb h
    cases b with
    | nil => exact absurd ((h x).1 (by simp)) (by simp)
    | cons y b =>
      rw [List.pairwise_cons] at ha hb
      have e : x = y := by
        rcases List.mem_cons.1 ((h x).1 (by simp)) with z | z
        · exact z
        · rcases List.mem_cons.1 ((h y).2 (by simp)) with w | w
          · exact w.symm
          · have := hb.1 x z
            have := ha.1 y w
            omega
      subst e
      rw [ih b ha.2 hb.2 fun z => ?_]
      constructor
      · intro hz
        rcases List.mem_cons.1 ((h z).1 (List.mem_cons_of_mem _ hz)) with w | w
        · have := ha.1 z hz
          omega
        · exact w
      · intro hz
        rcases List.mem_cons.1 ((h z).2 (List.mem_cons_of_mem _ hz)) with w | w
        · have := hb.1 z hz
          omega
        · exact w
/-- The places from m on that are marked. -/
def picked (g : List Bool) : Nat → Nat → List Int
  | 0, _ => []
  | d + 1, m => if rdOf false g (m : Int) = true then (m : Int) :: picked g d (m + 1) else picked g d (m + 1)
theorem picked_mem (g : List Bool) (d : Nat) : ∀ m (x : Int), x ∈ picked g d m ↔ ((m : Int) ≤ x ∧ x < (m : Int) + d) ∧ rdOf false g x = true := by
  induction d with
  | zero => intro m x; simp [picked]; omega
  | succ d ih =>
    intro m x
    have e : (((m : Int) ≤ x ∧ x < (m : Int) + (d + 1 : Nat)) ∧ rdOf false g x = true) ↔ (x = m ∧ rdOf false g x = true) ∨ ((((m + 1 : Nat) : Int) ≤ x ∧ x < ((m + 1 : Nat) : Int) + d) ∧ rdOf false g x = true) := by
      constructor
      · rintro ⟨a, b⟩
        by_cases z : x = m
        · exact .inl ⟨z, b⟩
        · exact .inr ⟨by omega, b⟩
      · rintro (⟨a, b⟩ | ⟨a, b⟩)
        · exact ⟨by omega, b⟩
        · exact ⟨by omega, b⟩
    rw [e, ← ih]
    simp only [picked]
    by_cases h : rdOf false g (m : Int) = true
    · rw [if_pos h, List.mem_cons]
      exact or_congr ⟨fun z => ⟨z, by rw [z]; exact h⟩, fun z => z.1⟩ Iff.rfl
    · rw [if_neg h]
      exact ⟨.inr, fun z => z.elim (fun w => absurd (by rw [← w.1]; exact w.2) h) id⟩
theorem picked_asc (g : List Bool) (d : Nat) : ∀ m, (picked g d m).Pairwise (· < ·) := by
  induction d with
  | zero => intro m; exact List.Pairwise.nil
  | succ d ih =>
    intro m
    simp only [picked]
    split
    · refine List.pairwise_cons.2 ⟨fun x hx => ?_, ih (m + 1)⟩
      have := (picked_mem g d (m + 1) x).1 hx
      omega
    · exact ih (m + 1)
theorem picked_length (g : List Bool) (d : Nat) : ∀ m, (picked g d m).length ≤ d := by
  induction d with
  | zero => intro m; simp [picked]
  | succ d ih =>
    intro m
    simp only [picked]
    have := ih (m + 1)
    split <;> simp <;> omega
theorem rdOf_set {l : List Bool} {i j : Int} (x : Bool) (i0 : 0 ≤ i) (i1 : i < l.length) (j0 : 0 ≤ j) : rdOf false (l.set i.toNat x) j = if j = i then x else rdOf false l j := by
  simp only [rdOf, List.getD_eq_getElem?_getD, List.getElem?_set]
  by_cases h : j = i
  · subst h
    rw [if_pos rfl, if_pos rfl, if_pos (by omega)]
    rfl
  · rw [if_neg h, if_neg (by omega)]
theorem l_at (l : List Int) {i : Int} (i0 : 0 ≤ i) (i1 : i < l.length) : rd l i ∈ l := by
  have hu : i.toNat < l.length := by omega
  have : rd l i = l[i.toNat] := by simp [rd, List.getD_eq_getElem?_getD, List.getElem?_eq_getElem hu]
  rw [this]
  exact List.getElem_mem _
section
variable {k p : Int} (hg : gok k p) (l : List Int) (hl : l.length ≤ 1048576) (hm : ∀ x ∈ l, 0 ≤ x ∧ x < gord k p)
include hg hl hm
/-- The reference's closure: rising, of the members and their inverses but the unit. -/
theorem s_closed : ∃ c : List Int, Ev (fun m => spec_l05Closed.f m k p l) c ∧ c.Pairwise (· < ·) ∧ c.length ≤ 62 ∧ ∀ x, x ∈ c ↔ (1 ≤ x ∧ x < gord k p) ∧ ∃ a ∈ l, x = a ∨ x = ginv k p a := by
  have ho := gord_pos hg
  have collect : ∀ (g : List Bool), (g.length : Int) = gord k p → ∀ (d : Nat) (i : Nat) (acc : List Int), 1 ≤ i → (i : Int) ≤ gord k p → gord k p - i = d → acc.length ≤ i → Ev (fun m => spec_l05Closed.l1 m g acc i) (acc ++ picked g d i) := by
    intro g hgl d
    induction d with
    | zero =>
      intro i acc i1 i2 hd ha
      refine ev_k ?_
      simp only [spec_l05Closed.l1, picked, List.append_nil]
      exact ev_neg (by omega) (Ev.now _)
    | succ d ih =>
      intro i acc i1 i2 hd ha
      refine ev_k ?_
      simp only [spec_l05Closed.l1, picked]
      rw [w64 (a := (i : Int) + 1) (by omega) (by omega)]
      refine ev_pos (by omega) (ev_pos (by omega) ?_)
      by_cases h : rdOf false g (i : Int) = true
      · have := ih (i + 1) (acc ++ [(i : Int)]) (by omega) (by omega) (by omega) (by simp; omega)
        rw [if_pos h]
        refine ev_pos h (ev_pos (by omega) ?_)
        simpa using this
      · rw [if_neg h]
        exact ev_neg h (ih (i + 1) acc (by omega) (by omega) (by omega) (by omega))
  have mark : ∀ (d : Nat) (i : Int) (g : List Bool), 0 ≤ i → i ≤ l.length → l.length - i = d → (g.length : Int) = gord k p → (∀ x, 0 ≤ x → x < gord k p → (rdOf false g x = true ↔ ∃ j : Int, (0 ≤ j ∧ j < i) ∧ (x = rd l j ∨ x = ginv k p (rd l j)))) → ∃ c : List Int, Ev (fun m => spec_l05Closed.l0 m l g [] i k p) c ∧ c.Pairwise (· < ·) ∧ c.length ≤ 62 ∧ ∀ x, x ∈ c ↔ (1 ≤ x ∧ x < gord k p) ∧ ∃ a ∈ l, x = a ∨ x = ginv k p a := by
    intro d
    induction d with
    | zero =>
      intro i g i0 i1 hd hgl hgm
      have := collect g hgl (gord k p - 1).toNat 1 [] (by omega) (by omega) (by omega) (by simp)
      rw [List.nil_append] at this
      refine ⟨picked g (gord k p - 1).toNat 1, ev_k ?_, picked_asc g _ 1, by have := picked_length g (gord k p - 1).toNat 1; omega, fun x => ?_⟩
      · simp only [spec_l05Closed.l0]
        exact ev_neg (by omega) this
      · rw [picked_mem]
        constructor
        · rintro ⟨a, b⟩
          obtain ⟨j, hj, e⟩ := (hgm x (by omega) (by omega)).1 b
          exact ⟨by omega, rd l j, l_at l hj.1 (by omega), e⟩
        · rintro ⟨a, y, hy, e⟩
          refine ⟨by omega, (hgm x (by omega) (by omega)).2 ?_⟩
          obtain ⟨j, hj, rfl⟩ := List.getElem_of_mem hy
          have ej : rd l (j : Int) = l[j] := by simp [rd, List.getD_eq_getElem?_getD, List.getElem?_eq_getElem hj]
          exact ⟨j, by omega, by rw [ej]; exact e⟩
    | succ d ih =>
      intro i g i0 i1 hd hgl hgm
      obtain ⟨x0, x1⟩ := hm _ (l_at l i0 (by omega))
      obtain ⟨v01, _, _, hs, _⟩ := ginv_spec hg x0 x1
      obtain ⟨c, hc, h2, h3, h4⟩ := ih (i + 1) ((g.set (rd l i).toNat true).set (ginv k p (rd l i)).toNat true) (by omega) (by omega) (by omega) (by simpa using hgl) fun x a b => by
        rw [rdOf_set _ v01.1 (by simp; omega) a, rdOf_set _ x0 (by omega) a]
        constructor
        · intro z
          by_cases e : x = ginv k p (rd l i)
          · exact ⟨i, by omega, .inr e⟩
          · rw [if_neg e] at z
            by_cases f : x = rd l i
            · exact ⟨i, by omega, .inl f⟩
            · rw [if_neg f] at z
              obtain ⟨j, hj, y⟩ := (hgm x a b).1 z
              exact ⟨j, by omega, y⟩
        · rintro ⟨j, hj, y⟩
          by_cases e : x = ginv k p (rd l i)
          · rw [if_pos e]
          · rw [if_neg e]
            by_cases f : x = rd l i
            · rw [if_pos f]
            · rw [if_neg f]
              have : j ≠ i := by
                rintro rfl
                exact y.elim f e
              exact (hgm x a b).2 ⟨j, by omega, y⟩
      refine ⟨c, ev_k ?_, h2, h3, h4⟩
      simp only [spec_l05Closed.l0]
      rw [w64 (a := i + 1) (by omega) (by omega)]
      exact ev_pos (by omega) (ev_pos i0 (ev_pos x0 (ev_pos (by omega) (Ev.bind hs (ev_pos v01.1 (ev_pos (by omega) hc))))))
  obtain ⟨c, hc, h⟩ := mark l.length 0 (List.replicate (gord k p).toNat false) (by omega) (by omega) (by omega) (by simp; omega) fun x a b => by
    have : x.toNat < (gord k p).toNat := by omega
    simp [rdOf, List.getD_eq_getElem?_getD, this]
    intro j h1 h2
    omega
  refine ⟨c, ?_, h⟩
  unfold spec_l05Closed.f
  rw [s_order hg]
  simp only [Option.bind_some]
  exact ev_pos (by omega) (ev_pos (by omega) hc)
/-- A connection set: rising, without the unit, with the inverses. -/
def conn (k p : Int) (l : List Int) : Prop := l.Pairwise (· < ·) ∧ ∀ x ∈ l, x ≠ 0 ∧ ginv k p x ∈ l
theorem s_set : Says (fun m => spec_l05Set.f m k p l) (conn k p l) := by
  obtain ⟨c, hc, asc, len, mem⟩ := s_closed hg l hl hm
  have e : c = l ↔ conn k p l := by
    constructor
    · rintro rfl
      refine ⟨asc, fun x hx => ?_⟩
      obtain ⟨x0, x1⟩ := hm x hx
      have := ((mem x).1 hx).1
      obtain ⟨v01, _⟩ := ginv_spec hg x0 x1
      have := ginv_ne hg x0 x1 (by omega)
      exact ⟨by omega, (mem _).2 ⟨by omega, x, hx, .inr rfl⟩⟩
    · rintro ⟨ha, hb⟩
      refine asc_ext c l asc ha fun x => ?_
      rw [mem]
      constructor
      · rintro ⟨_, a, ha, rfl | rfl⟩
        · exact ha
        · exact (hb a ha).2
      · intro hx
        have := hm x hx
        have := (hb x hx).1
        exact ⟨by omega, x, hx, .inl rfl⟩
  refine says_iff e.symm ?_
  unfold spec_l05Set.f
  refine says_bind hc ?_
  by_cases hlen : (c.length : Int) = (l.length : Int)
  · refine says_pos hlen ?_
    have loop : ∀ (d : Nat) (i : Int), 0 ≤ i → i ≤ c.length → c.length - i = d → Says (fun m => spec_l05Set.l0 m l c i) (∀ j, i ≤ j → j < c.length → rd c j = rd l j) := by
      intro d
      induction d with
      | zero =>
        intro i i0 i1 hd
        refine says_k ?_
        simp only [spec_l05Set.l0]
        exact says_neg (by omega) (says_true fun j _ _ => by omega)
      | succ d ih =>
        intro i i0 i1 hd
        refine says_k ?_
        simp only [spec_l05Set.l0]
        refine says_pos (by omega) (says_pos i0 (says_pos (by omega) ?_))
        by_cases z : rd c i = rd l i
        · refine says_pos z ?_
          rw [w64 (a := i + 1) (by omega) (by omega)]
          exact says_iff ⟨fun y j a b => y j (by omega) b, fun y j a b => if q : j = i then by rw [q]; exact z else y j (by omega) b⟩ (ih (i + 1) (by omega) (by omega) (by omega))
        · exact says_neg z (says_false fun y => z (y i (by omega) (by omega)))
    exact says_iff ⟨fun z => by subst z; exact fun _ _ _ => rfl, fun z => rd_ext (by omega) fun v v0 v1 => z v v0 v1⟩ (loop c.length 0 (by omega) (by omega) (by omega))
  · exact says_neg hlen (says_false fun z => hlen (by rw [z]))
/-- Rising by neighbours is rising. -/
theorem i_conn : Says (fun m => impl_Group_isConnection.f m k p l) (conn k p l) := by
  have loop : ∀ (d : Nat) (i : Int), 0 ≤ i → i ≤ l.length → l.length - i = d → Says (fun m => impl_Group_isConnection.l0 m l l l.length i k p) (∀ j : Int, i ≤ j → j < l.length → rd l j ≠ 0 ∧ (0 < j → rd l (j - 1) < rd l j) ∧ ginv k p (rd l j) ∈ l) := by
    intro d
    induction d with
    | zero =>
      intro i i0 i1 hd
      refine says_k ?_
      simp only [impl_Group_isConnection.l0]
      exact says_neg (by omega) (says_true fun j _ _ => by omega)
    | succ d ih =>
      intro i i0 i1 hd
      obtain ⟨x0, x1⟩ := hm _ (l_at l i0 (by omega))
      obtain ⟨_, _, _, _, hi⟩ := ginv_spec hg x0 x1
      have ih := ih (i + 1) (by omega) (by omega) (by omega)
      have fin : (0 < i → rd l (i - 1) < rd l i) → rd l i ≠ 0 → Says (fun m => (impl_Group_inverse.f m k p (rd l i)).bind fun t => (slices_Contains_int64_int64.f m l t).bind fun b => if b = true then impl_Group_isConnection.l0 m l l l.length (wrap64 (i + 1)) k p else some false) (∀ j : Int, i ≤ j → j < l.length → rd l j ≠ 0 ∧ (0 < j → rd l (j - 1) < rd l j) ∧ ginv k p (rd l j) ∈ l) := by
        intro hr hz
        refine says_bind hi ?_
        have hs := r_mem l (by omega) (ginv k p (rd l i))
        by_cases z : ginv k p (rd l i) ∈ l
        · refine says_bind (hs.yes z) (says_pos rfl ?_)
          rw [w64 (a := i + 1) (by omega) (by omega)]
          exact says_iff ⟨fun y j a b => y j (by omega) b, fun y j a b => if q : j = i then by rw [q]; exact ⟨hz, hr, z⟩ else y j (by omega) b⟩ ih
        · exact says_bind (hs.no z) (says_neg (by simp) (says_false fun y => z (y i (by omega) (by omega)).2.2))
      refine says_k ?_
      simp only [impl_Group_isConnection.l0]
      refine says_pos (by omega) (says_pos i0 (says_pos (by omega) ?_))
      by_cases hz : rd l i = 0
      · exact says_pos hz (says_false fun y => (y i (by omega) (by omega)).1 hz)
      · refine says_neg hz ?_
        by_cases hi0 : i > 0
        · refine says_pos hi0 ?_
          rw [w64 (a := i - 1) (by omega) (by omega)]
          refine says_pos (by omega) (says_pos (by omega) ?_)
          by_cases hr : rd l i ≤ rd l (i - 1)
          · exact says_pos hr (says_false fun y => by have := (y i (by omega) (by omega)).2.1 (by omega); omega)
          · exact says_neg hr (fin (fun _ => by omega) hz)
        · exact says_neg hi0 (fin (fun z => absurd z hi0) hz)
  unfold impl_Group_isConnection.f
  refine says_iff ?_ (loop l.length 0 (by omega) (by omega) (by omega))
  constructor
  · rintro ⟨ha, hb⟩ j j0 j1
    refine ⟨(hb _ (l_at l j0 j1)).1, fun hj => ?_, (hb _ (l_at l j0 j1)).2⟩
    have := List.pairwise_iff_getElem.1 ha (j - 1).toNat j.toNat (by omega) (by omega) (by omega)
    rw [rd_getElem (show (j - 1).toNat < l.length by omega), rd_getElem (show j.toNat < l.length by omega)]
    exact this
  · intro h
    refine ⟨List.pairwise_iff_getElem.2 fun i j hi hj hij => ?_, fun x hx => ?_⟩
    · have key : ∀ (c : Nat) (a : Int), 0 ≤ a → a + (c + 1) < l.length → rd l a < rd l (a + (c + 1)) := by
        intro c
        induction c with
        | zero =>
          intro a a0 a1
          have := (h (a + 1) (by omega) (by omega)).2.1 (by omega)
          rw [show a + 1 - 1 = a by omega] at this
          simpa using this
        | succ c ih =>
          intro a a0 a1
          have b1 := ih a a0 (by omega)
          have b2 := (h (a + ((c + 1 : Nat) + 1)) (by omega) (by omega)).2.1 (by omega)
          rw [show a + (((c + 1 : Nat) : Int) + 1) - 1 = a + ((c : Int) + 1) by omega] at b2
          omega
      have := key (j - i - 1) i (by omega) (by omega)
      rw [show (i : Int) + (((j - i - 1 : Nat) : Int) + 1) = (j : Int) by omega] at this
      simpa [rd, List.getD_eq_getElem?_getD, List.getElem?_eq_getElem hi, List.getElem?_eq_getElem hj] using this
    · obtain ⟨j, hj, rfl⟩ := mem_rd' hx
      have := h j hj.1 hj.2
      exact ⟨this.1, this.2.2⟩
end
end Go.Proofs.YtkmpkcofddpdgaaDoor.Q
/- Inverses are unique: no program in sight. -/
namespace Go.Proofs.YtkmpkcofddpdgaaDoor.Q
open Go Go.RowKit
theorem gmul_uniq {k p v x y : Int} (h : gok k p) (v0 : 0 ≤ v) (v1 : v < gord k p) (x0 : 0 ≤ x) (x1 : x < gord k p) (y0 : 0 ≤ y) (y1 : y < gord k p) (e : gmul k p v x = 0) (f : gmul k p v y = 0) : x = y := by
  rcases h with ⟨rfl, a, b⟩ | ⟨rfl, a, b⟩ | ⟨rfl, hp⟩
  · simp only [gmul, gord, if_true] at *
    have key : ∀ z, 0 ≤ z → z < p → (v + z) % p = 0 → z = (if v = 0 then 0 else p - v) := by
      intro z z0 z1 h
      by_cases w : v + z < p
      · rw [Int.emod_eq_of_lt (by omega) w] at h
        rw [if_pos (by omega)]
        omega
      · rw [← Int.sub_emod_right, Int.emod_eq_of_lt (by omega) (by omega)] at h
        rw [if_neg (by omega)]
        omega
    rw [key x x0 x1 e, key y y0 y1 f]
  · simp only [gmul, gord, show ¬ (1 : Int) = 0 by decide, if_true, if_false] at *
    have key : ∀ z, 0 ≤ z → z < 2 * p → (if v < p then (z / p) % 2 * p + (v + z % p) % p else (1 + z / p) % 2 * p + (v - p - z % p + p) % p) = 0 → z = (if v < p then (if v = 0 then 0 else p - v) else v) := by
      intro z z0 z1 h
      rcases div01 (by omega) z0 z1 with ⟨h1, e1, e2⟩ | ⟨h1, e1, e2⟩ <;> rw [e1, e2] at h
      · by_cases hv : v < p
        · rw [if_pos hv] at h ⊢
          simp only [show (0 : Int) % 2 = 0 by decide, Int.zero_mul, Int.zero_add] at h
          by_cases w : v + z < p
          · rw [Int.emod_eq_of_lt (by omega) w] at h
            rw [if_pos (by omega)]
            omega
          · rw [← Int.sub_emod_right, Int.emod_eq_of_lt (by omega) (by omega)] at h
            rw [if_neg (by omega)]
            omega
        · rw [if_neg hv] at h
          simp only [show (1 + 0 : Int) % 2 = 1 by decide, Int.one_mul] at h
          have := Int.emod_nonneg (v - p - z + p) (show p ≠ 0 by omega)
          omega
      · by_cases hv : v < p
        · rw [if_pos hv] at h
          simp only [show (1 : Int) % 2 = 1 by decide, Int.one_mul] at h
          have := Int.emod_nonneg (v + (z - p)) (show p ≠ 0 by omega)
          omega
        · rw [if_neg hv] at h ⊢
          simp only [show (1 + 1 : Int) % 2 = 0 by decide, Int.zero_mul, Int.zero_add] at h
          by_cases w : v - p - (z - p) + p < p
          · rw [Int.emod_eq_of_lt (by omega) w] at h
            omega
          · rw [Int.add_emod_right, Int.emod_eq_of_lt (by omega) (by omega)] at h
            omega
    rw [key x x0 x1 e, key y y0 y1 f]
  · have key : ∀ p ∈ [2, 3, 5, 7], ∀ v < p * (p - 1), ∀ x < p * (p - 1), gmul 2 (p : Nat) (v : Nat) (x : Nat) = 0 → ∀ y < p * (p - 1), gmul 2 (p : Nat) (v : Nat) (y : Nat) = 0 → x = y := by decide +kernel
    have hq : ∃ q : Nat, p = q ∧ q ∈ [2, 3, 5, 7] := by rcases hp with rfl | rfl | rfl | rfl <;> exact ⟨_, rfl, by decide⟩
    obtain ⟨q, rfl, hq⟩ := hq
    have g : gord 2 (q : Int) = ((q * (q - 1) : Nat) : Int) := by
      simp at hq
      rcases hq with rfl | rfl | rfl | rfl <;> simp [gord]
    rw [g] at v1 x1 y1
    have := key q hq v.toNat (by omega) x.toNat (by omega)
    rw [Int.toNat_of_nonneg v0, Int.toNat_of_nonneg x0] at this
    have := this e y.toNat (by omega)
    rw [Int.toNat_of_nonneg y0] at this
    have := this f
    omega
end Go.Proofs.YtkmpkcofddpdgaaDoor.Q
/- Reduced words in a connection set: the states (product, last letter). No program in sight. -/
namespace Go.Proofs.YtkmpkcofddpdgaaDoor.Q
open Go Go.RowKit Go.Proofs.YtkmpkcofddpdgaaDoor.P Go.Proofs.YtkmpkcofddpdgaaDoorW.PrintWords Go.Proofs.YtkmpkcofddpdgaaDoorW.PrintMore
/-- One letter more, which does not undo the last. -/
def nextW (k p : Int) (l : List Int) (S : Int → Int → Prop) (y j : Int) : Prop := (0 ≤ j ∧ j < l.length) ∧ ∃ x i : Int, ((0 ≤ x ∧ x < gord k p) ∧ (0 ≤ i ∧ i < l.length)) ∧ S x i ∧ y = gmul k p x (rd l j) ∧ gmul k p (rd l i) (rd l j) ≠ 0
/-- The states of the words of so many letters more than one. -/
def Wd (k p : Int) (l : List Int) : Nat → Int → Int → Prop
  | 0, x, i => (0 ≤ i ∧ i < l.length) ∧ x = rd l i
  | m + 1, y, j => nextW k p l (Wd k p l m) y j
section
variable {k p : Int} (hg : gok k p) (l : List Int) (hl : l.length ≤ 1048576) (hm : ∀ x ∈ l, 0 ≤ x ∧ x < gord k p) (hc : conn k p l)
include hg hl hm hc
theorem conn_len : l.length ≤ 62 := by
  obtain ⟨c, _, asc, len, mem⟩ := s_closed hg l hl hm
  have : c = l := by
    refine asc_ext c l asc hc.1 fun x => ?_
    rw [mem]
    constructor
    · rintro ⟨_, a, ha, rfl | rfl⟩
      · exact ha
      · exact (hc.2 a ha).2
    · intro hx
      have := hm x hx
      have := (hc.2 x hx).1
      exact ⟨by omega, x, hx, .inl rfl⟩
  rw [← this]
  exact len
omit hg hl hm in
/-- No word of one letter, nor of two, is the unit. -/
theorem Wd_low {m : Nat} (h2 : m ≤ 1) {j : Int} (h : Wd k p l m 0 j) : False := by
  match m, h2, h with
  | 0, _, h =>
    obtain ⟨hj, e⟩ := h
    exact (hc.2 _ (l_at l hj.1 hj.2)).1 e.symm
  | 1, _, h =>
    obtain ⟨hj, x, i, _, ⟨_, e⟩, f, g⟩ := h
    rw [e] at f
    exact g f.symm
end
end Go.Proofs.YtkmpkcofddpdgaaDoor.Q
/- Walks and distances in rows of bits: no program in sight. -/
namespace Go.Proofs.YtkmpkcofddpdgaaDoor.Q
open Go Go.RowKit Go.Proofs.YtkmpkcofddpdgaaDoorW.PrintWords Go.Proofs.YtkmpkcofddpdgaaDoorW.PrintMore

/-- A walk of so many steps from s to u. -/
def Wk (n : Int) (l : List Int) (s : Int) : Nat → Int → Prop
  | 0, u => u = s
  | k + 1, u => (0 ≤ u ∧ u < n) ∧ ∃ w, (0 ≤ w ∧ w < n) ∧ Wk n l s k w ∧ tb (rd l w) u = true
/-- A shortest one. -/
def Ds (n : Int) (l : List Int) (s : Int) (d : Nat) (u : Int) : Prop := Wk n l s d u ∧ ∀ j, j < d → ¬ Wk n l s j u
theorem Ds.uniq {n : Int} {l : List Int} {s u : Int} {d e : Nat} (h : Ds n l s d u) (g : Ds n l s e u) : d = e := by
  rcases Nat.lt_trichotomy d e with z | z | z
  · exact absurd h.1 (g.2 d z)
  · exact z
  · exact absurd g.1 (h.2 e z)
theorem Wk.range {n : Int} {l : List Int} {s : Int} (s0 : 0 ≤ s) (s1 : s < n) {k : Nat} {u : Int} (h : Wk n l s k u) : 0 ≤ u ∧ u < n := by
  cases k with
  | zero => cases h; exact ⟨s0, s1⟩
  | succ k => exact h.1
/-- A walk has a shortest one. -/
theorem Wk.least {n : Int} {l : List Int} {s u : Int} (k : Nat) (h : Wk n l s k u) : ∃ d, d ≤ k ∧ Ds n l s d u := by
  induction k using Nat.strongRecOn with
  | _ k ih =>
    by_cases hj : ∃ j, j < k ∧ Wk n l s j u
    · obtain ⟨j, hj, hw⟩ := hj
      obtain ⟨d, hd, h2⟩ := ih j hj hw
      exact ⟨d, by omega, h2⟩
    · exact ⟨k, Nat.le_refl _, h, fun j hj' hw => hj ⟨j, hj', hw⟩⟩
/-- The vertex ahead on a shortest walk. -/
theorem Ds.ahead {n : Int} {l : List Int} {s u : Int} {d : Nat} (h : Ds n l s (d + 1) u) : ∃ w, (0 ≤ w ∧ w < n) ∧ Ds n l s d w ∧ tb (rd l w) u = true := by
  obtain ⟨⟨hu, w, hw, hk, ht⟩, hm⟩ := h
  refine ⟨w, hw, ⟨hk, fun j hj hwj => hm (j + 1) (by omega) ⟨hu, w, hw, hwj, ht⟩⟩, ht⟩
/-- Where one level is empty, so are all that come. -/
theorem Ds.stops {n : Int} {l : List Int} {s : Int} {d : Nat} (h : ∀ w, ¬ Ds n l s d w) : ∀ e, d ≤ e → ∀ u, ¬ Ds n l s e u := by
  intro e he
  induction e with
  | zero =>
    obtain rfl : d = 0 := by omega
    exact h
  | succ e ih =>
    by_cases z : d = e + 1
    · subst z
      exact h
    · intro u hu
      obtain ⟨w, _, hw, _⟩ := hu.ahead
      exact ih (by omega) w hw
/-- The next level: what a step leads to and was not met. -/
theorem Ds.next {n : Int} {l : List Int} {s u : Int} {d : Nat} (hu : 0 ≤ u ∧ u < n) : Ds n l s (d + 1) u ↔ (∃ w, (0 ≤ w ∧ w < n) ∧ Ds n l s d w ∧ tb (rd l w) u = true) ∧ ¬ ∃ j, j ≤ d ∧ Wk n l s j u := by
  constructor
  · intro h
    exact ⟨h.ahead, fun ⟨j, hj, hw⟩ => h.2 j (by omega) hw⟩
  · rintro ⟨⟨w, hw, hd, ht⟩, hno⟩
    exact ⟨⟨hu, w, hw, hd.1, ht⟩, fun j hj hwj => hno ⟨j, by omega, hwj⟩⟩
/-- What is met within d + 1 steps. -/
theorem met_next {n : Int} {l : List Int} {s u : Int} {d : Nat} (hu : 0 ≤ u ∧ u < n) : (∃ j, j ≤ d + 1 ∧ Wk n l s j u) ↔ (∃ j, j ≤ d ∧ Wk n l s j u) ∨ ∃ w, (0 ≤ w ∧ w < n) ∧ Ds n l s d w ∧ tb (rd l w) u = true := by
  constructor
  · rintro ⟨j, hj, hw⟩
    by_cases z : ∃ j, j ≤ d ∧ Wk n l s j u
    · exact .inl z
    · have : j = d + 1 := by
        by_cases e : j ≤ d
        · exact absurd ⟨j, e, hw⟩ z
        · omega
      subst this
      have hd : Ds n l s (d + 1) u := ⟨hw, fun i hi hwi => z ⟨i, by omega, hwi⟩⟩
      exact .inr hd.ahead
  · rintro (⟨j, hj, hw⟩ | ⟨w, hw, hd, ht⟩)
    · exact ⟨j, by omega, hw⟩
    · exact ⟨d + 1, Nat.le_refl _, hu, w, hw, hd.1, ht⟩
/-- The list of distances; -1 where no walk leads. -/
def DistL (n : Int) (l : List Int) (s : Int) (ds : List Int) : Prop := (ds.length : Int) = n ∧ ∀ u, 0 ≤ u → u < n → (rd ds u = -1 ∧ ∀ j, ¬ Wk n l s j u) ∨ ∃ d : Nat, rd ds u = (d : Int) ∧ Ds n l s d u
theorem DistL.eq {n : Int} {l : List Int} {s : Int} {a b : List Int} (ha : DistL n l s a) (hb : DistL n l s b) : a = b := by
  refine rd_ext (by have := ha.1; have := hb.1; omega) fun v v0 v1 => ?_
  have v1 : v < n := by have := ha.1; omega
  rcases ha.2 v v0 v1 with ⟨e, h⟩ | ⟨d, e, h⟩ <;> rcases hb.2 v v0 v1 with ⟨f, g⟩ | ⟨c, f, g⟩
  · rw [e, f]
  · exact absurd g.1 (h c)
  · exact absurd h.1 (g d)
  · rw [e, f, h.uniq g]
theorem Ds.zero (n : Int) (l : List Int) (s u : Int) : Ds n l s 0 u ↔ u = s := ⟨fun h => h.1, fun h => ⟨h, fun j hj => by omega⟩⟩
theorem met_zero (n : Int) (l : List Int) (s u : Int) : (∃ j, j ≤ 0 ∧ Wk n l s j u) ↔ u = s := by
  constructor
  · rintro ⟨j, hj, h⟩
    obtain rfl : j = 0 := by omega
    exact h
  · exact fun h => ⟨0, Nat.le_refl _, h⟩
/-- A step ahead of a walk. -/
theorem Wk.front {n : Int} {l : List Int} {s w : Int} (hs : 0 ≤ s ∧ s < n) (hw : 0 ≤ w ∧ w < n) (ht : tb (rd l s) w = true) : ∀ (k : Nat) (u : Int), Wk n l w k u → Wk n l s (k + 1) u := by
  intro k
  induction k with
  | zero =>
    intro u hu
    cases hu
    exact ⟨hw, s, hs, rfl, ht⟩
  | succ k ih =>
    rintro u ⟨hu, x, hx, hk, hx2⟩
    exact ⟨hu, x, hx, ih x hk, hx2⟩
/-- In a graph walks go both ways. -/
theorem Wk.back {n : Int} {l : List Int} (hg : ∀ v w, 0 ≤ v → v < n → 0 ≤ w → w < n → tb (rd l v) w = tb (rd l w) v) {s : Int} : ∀ (k : Nat) (u : Int), Wk n l s k u → Wk n l u k s := by
  intro k
  induction k with
  | zero => intro u hu; exact hu.symm
  | succ k ih =>
    rintro u ⟨hu, w, hw, hk, ht⟩
    exact Wk.front hu hw (by rw [hg u w hu.1 hu.2 hw.1 hw.2]; exact ht) k s (ih w hk)
theorem Ds.back {n : Int} {l : List Int} (hg : ∀ v w, 0 ≤ v → v < n → 0 ≤ w → w < n → tb (rd l v) w = tb (rd l w) v) {s u : Int} {d : Nat} (h : Ds n l s d u) : Ds n l u d s :=
  ⟨Wk.back hg d u h.1, fun j hj hw => h.2 j hj (Wk.back hg j s hw)⟩
/-- The same list, told by itself alone: the start at 0; at d + 1 what a step from one at d leads to and was not met; no level left out. -/
structure Dist (n : Int) (l : List Int) (s : Int) (r : List Int) : Prop where
  len : (r.length : Int) = n
  src : ∀ u, 0 ≤ u → u < n → (rd r u = 0 ↔ u = s)
  next : ∀ (d u : Int), 0 ≤ d → 0 ≤ u → u < n → (rd r u = d + 1 ↔ (∃ w, (0 ≤ w ∧ w < n) ∧ rd r w = d ∧ tb (rd l w) u = true) ∧ ¬ (0 ≤ rd r u ∧ rd r u ≤ d))
  low : ∀ u, 0 ≤ u → u < n → -1 ≤ rd r u
  stops : ∀ d, 0 ≤ d → (∀ u, 0 ≤ u → u < n → rd r u ≠ d) → ∀ u, 0 ≤ u → u < n → rd r u < d
theorem DistL.ds {n : Int} {l : List Int} {s : Int} {r : List Int} (h : DistL n l s r) {u : Int} (u0 : 0 ≤ u) (u1 : u < n) (d : Nat) : rd r u = (d : Int) ↔ Ds n l s d u := by
  rcases h.2 u u0 u1 with ⟨e, g⟩ | ⟨c, e, g⟩
  · exact ⟨fun z => by omega, fun z => absurd z.1 (g d)⟩
  · constructor
    · intro z
      have : c = d := by omega
      exact this ▸ g
    · intro z
      rw [e, g.uniq z]
theorem DistL.met {n : Int} {l : List Int} {s : Int} {r : List Int} (h : DistL n l s r) {u : Int} (u0 : 0 ≤ u) (u1 : u < n) (d : Nat) : (0 ≤ rd r u ∧ rd r u ≤ (d : Int)) ↔ ∃ j, j ≤ d ∧ Wk n l s j u := by
  constructor
  · intro z
    have := (h.ds u0 u1 (rd r u).toNat).1 (by omega)
    exact ⟨(rd r u).toNat, by omega, this.1⟩
  · rintro ⟨j, hj, hw⟩
    obtain ⟨c, hc, hd⟩ := hw.least
    have := (h.ds u0 u1 c).2 hd
    omega
theorem DistL.dist {n : Int} {l : List Int} {s : Int} {r : List Int} (h : DistL n l s r) : Dist n l s r where
  len := h.1
  src := fun u u0 u1 => (h.ds u0 u1 0).trans (Ds.zero n l s u)
  next := fun d u d0 u0 u1 => by
    obtain ⟨d, rfl⟩ := Int.eq_ofNat_of_zero_le d0
    have a := h.ds u0 u1 (d + 1)
    rw [show ((d + 1 : Nat) : Int) = (d : Int) + 1 by omega] at a
    rw [a, Ds.next ⟨u0, u1⟩, h.met u0 u1]
    refine and_congr ⟨?_, ?_⟩ Iff.rfl
    · rintro ⟨w, hw, hd, ht⟩
      exact ⟨w, hw, (h.ds hw.1 hw.2 d).2 hd, ht⟩
    · rintro ⟨w, hw, hd, ht⟩
      exact ⟨w, hw, (h.ds hw.1 hw.2 d).1 hd, ht⟩
  low := fun u u0 u1 => by
    rcases h.2 u u0 u1 with ⟨e, _⟩ | ⟨c, e, _⟩ <;> omega
  stops := fun d d0 hd u u0 u1 => by
    obtain ⟨d, rfl⟩ := Int.eq_ofNat_of_zero_le d0
    rcases h.2 u u0 u1 with ⟨e, _⟩ | ⟨c, e, g⟩
    · omega
    · by_cases z : c < d
      · omega
      · refine absurd g ?_
        refine Ds.stops (d := d) (fun w hw => ?_) c (by omega) u
        have hr : 0 ≤ w ∧ w < n := by
          cases d with
          | zero =>
            have hs : w = s := hw.1
            by_cases hc : 0 ≤ s ∧ s < n
            · rw [hs]; exact hc
            · exfalso
              have key : ∀ (c : Nat) (u : Int), 0 ≤ u → u < n → ¬ Ds n l s c u := by
                intro c
                induction c with
                | zero => intro u u0 u1 z; have : u = s := z.1; exact hc ⟨by omega, by omega⟩
                | succ c ih => intro u u0 u1 z; obtain ⟨w, hw, hd, _⟩ := z.ahead; exact ih w hw.1 hw.2 hd
              exact key c u u0 u1 g
          | succ d => exact hw.1.1
        exact hd w hr.1 hr.2 ((h.ds hr.1 hr.2 d).2 hw)
open Classical in
theorem distL_exists (n : Int) (l : List Int) (s : Int) (n0 : 0 ≤ n) : ∃ r, DistL n l s r := by
  let f : Nat → Int := fun u => if h : ∃ d : Nat, Ds n l s d (u : Int) then (h.choose : Int) else -1
  refine ⟨(List.range n.toNat).map f, by simp; omega, fun u u0 u1 => ?_⟩
  have e : rd ((List.range n.toNat).map f) u = f u.toNat := by
    have : u.toNat < n.toNat := by omega
    simp [rd, List.getD_eq_getElem?_getD, this]
  rw [e]
  have hu : ((u.toNat : Nat) : Int) = u := Int.toNat_of_nonneg u0
  show _ ∨ _
  by_cases h : ∃ d : Nat, Ds n l s d ((u.toNat : Nat) : Int)
  · refine .inr ⟨h.choose, dif_pos h, ?_⟩
    have go : ∀ (c : Nat) (z : Int), z = u → Ds n l s c z → Ds n l s c u := fun c z e h => e ▸ h
    exact go _ _ hu h.choose_spec
  · refine .inl ⟨dif_neg h, fun j hj => h ?_⟩
    obtain ⟨d, _, hd⟩ := hj.least
    exact ⟨d, by rwa [hu]⟩
/-- No distance beyond some number. -/
theorem bound_of (r : List Int) : ∃ M : Nat, ∀ u, 0 ≤ u → u < (r.length : Int) → rd r u < (M : Int) := by
  have : ∃ M : Nat, ∀ x ∈ r, x < (M : Int) := by
    induction r with
    | nil => exact ⟨0, by simp⟩
    | cons a r ih =>
      obtain ⟨M, h⟩ := ih
      refine ⟨M + a.toNat + 1, fun x hx => ?_⟩
      rcases List.mem_cons.1 hx with rfl | hx
      · omega
      · have := h x hx; omega
  obtain ⟨M, h⟩ := this
  refine ⟨M, fun u u0 u1 => h _ ?_⟩
  have hu : u.toNat < r.length := by omega
  have : rd r u = r[u.toNat] := by simp [rd, List.getD_eq_getElem?_getD, List.getElem?_eq_getElem hu]
  rw [this]
  exact List.getElem_mem _
theorem length_of_all (K : Nat) : ∀ xs : List Nat, (∀ d, d < K → d ∈ xs) → K ≤ xs.length := by
  induction K with
  | zero => intro xs _; omega
  | succ K ih =>
    intro xs h
    have hm := h K (by omega)
    have := ih (xs.erase K) fun d hd => (List.mem_erase_of_ne (by omega)).2 (h d (by omega))
    have := List.length_erase_of_mem hm
    have := List.length_pos_of_mem hm
    omega
theorem Dist.level {n : Int} {l : List Int} {s : Int} {r : List Int} (h : Dist n l s r) (D : Nat) : ∀ u, 0 ≤ u → u < n → rd r u = (D : Int) → ∀ d, d ≤ D → ∃ w, (0 ≤ w ∧ w < n) ∧ rd r w = (d : Int) := by
  induction D with
  | zero => intro u u0 u1 hu d hd; exact ⟨u, ⟨u0, u1⟩, by rw [hu]; omega⟩
  | succ D ih =>
    intro u u0 u1 hu d hd
    by_cases e : d = D + 1
    · exact ⟨u, ⟨u0, u1⟩, by rw [hu, e]⟩
    · obtain ⟨⟨w, hw, hd', _⟩, _⟩ := (h.next D u (by omega) u0 u1).1 (by rw [hu]; omega)
      exact ih w hw.1 hw.2 hd' d (by omega)
/-- Distances are below n. -/
theorem Dist.small {n : Int} {l : List Int} {s : Int} {r : List Int} (h : Dist n l s r) : ∀ u, 0 ≤ u → u < n → rd r u < n := by
  intro u u0 u1
  by_cases z : rd r u < 0
  · omega
  · have lv := h.level (rd r u).toNat u u0 u1 (by omega)
    have := length_of_all ((rd r u).toNat + 1) (r.map Int.toNat) fun d hd => by
      obtain ⟨w, hw, e⟩ := lv d (by omega)
      have hl := h.len
      have hwl : w.toNat < r.length := by omega
      have e2 : rd r w = r[w.toNat] := by simp [rd, List.getD_eq_getElem?_getD, List.getElem?_eq_getElem hwl]
      exact List.mem_map.2 ⟨r[w.toNat], List.getElem_mem _, by rw [← e2, e]; omega⟩
    rw [List.length_map] at this
    have := h.len
    omega
end Go.Proofs.YtkmpkcofddpdgaaDoor.Q
/- Rows joined and parted: no program in sight. -/
namespace Go.Proofs.YtkmpkcofddpdgaaDoor.Q
open Go Go.RowKit Go.Proofs.YtkmpkcofddpdgaaDoorW.PrintWords Go.Proofs.YtkmpkcofddpdgaaDoorW.PrintMore
/-- A row of n digits. -/
def Rw (n x : Int) : Prop := 0 ≤ x ∧ x < 2 ^ n.toNat
theorem Rw.nat {n x : Int} (n2 : n ≤ 62) (h : Rw n x) : ∃ y : Nat, x = (y : Int) ∧ y < 2 ^ n.toNat ∧ y < 2 ^ 62 := by
  obtain ⟨h0, h1⟩ := h
  have e : ((2 : Int) ^ n.toNat) = ((2 ^ n.toNat : Nat) : Int) := by simp
  have p : 2 ^ n.toNat ≤ 2 ^ 62 := Nat.pow_le_pow_right (by decide) (by omega)
  rw [e] at h1
  exact ⟨x.toNat, by omega, by omega, by omega⟩
theorem Rw.of {n : Int} {y : Nat} (h : y < 2 ^ n.toNat) : Rw n (y : Int) := by
  have e : ((2 : Int) ^ n.toNat) = ((2 ^ n.toNat : Nat) : Int) := by simp
  exact ⟨by omega, by rw [e]; omega⟩
theorem or_rw {n x y : Int} (n2 : n ≤ 62) (hx : Rw n x) (hy : Rw n y) : Rw n (bits .or .i64 x y) ∧ ∀ w, 0 ≤ w → (tb (bits .or .i64 x y) w = true ↔ tb x w = true ∨ tb y w = true) := by
  obtain ⟨a, rfl, a1, a2⟩ := hx.nat n2
  obtain ⟨b, rfl, b1, b2⟩ := hy.nat n2
  rw [or_nat a b (by omega) (by omega)]
  refine ⟨Rw.of (Nat.or_lt_two_pow a1 b1), fun w w0 => ?_⟩
  obtain ⟨w, rfl⟩ := Int.eq_ofNat_of_zero_le w0
  rw [tb_nat, tb_nat, tb_nat, Nat.testBit_or]
  simp
theorem andNot_rw {n x y : Int} (n2 : n ≤ 62) (hx : Rw n x) (hy : Rw n y) : Rw n (bits .andNot .i64 x y) ∧ ∀ w, 0 ≤ w → (tb (bits .andNot .i64 x y) w = true ↔ tb x w = true ∧ ¬ tb y w = true) := by
  obtain ⟨a, rfl, a1, a2⟩ := hx.nat n2
  obtain ⟨b, rfl, b1, b2⟩ := hy.nat n2
  obtain ⟨c, e, _, hc⟩ := andNot_nat a b (by omega) (by omega)
  rw [e]
  have c1 : c < 2 ^ n.toNat := by
    refine Nat.lt_pow_two_of_testBit _ fun i hi => ?_
    rw [hc, Nat.testBit_lt_two_pow (Nat.lt_of_lt_of_le a1 (Nat.pow_le_pow_right (by decide) hi))]
    rfl
  refine ⟨Rw.of c1, fun w w0 => ?_⟩
  obtain ⟨w, rfl⟩ := Int.eq_ofNat_of_zero_le w0
  rw [tb_nat, tb_nat, tb_nat, hc]
  simp
theorem and_split (k : Nat) : ∀ x s : Nat, x < 2 ^ k → ∃ y, x = (x &&& s) + y ∧ ∀ i, y.testBit i = (x.testBit i && !s.testBit i) := by
  induction k with
  | zero => intro x s h; obtain rfl : x = 0 := by omega
            exact ⟨0, by simp, by simp⟩
  | succ k ih =>
    intro x s h
    rw [Nat.pow_succ] at h
    obtain ⟨y, e, hy⟩ := ih (x / 2) (s / 2) (by omega)
    have d2 : (x &&& s) / 2 = x / 2 &&& s / 2 := Nat.and_div_two
    have m2 : (x &&& s) % 2 = 1 ↔ x % 2 = 1 ∧ s % 2 = 1 := Nat.and_mod_two_eq_one
    refine ⟨2 * y + (if x % 2 = 1 ∧ ¬ s % 2 = 1 then 1 else 0), ?_, fun i => ?_⟩
    · split <;> omega
    · cases i with
      | zero =>
        rw [Nat.testBit_zero, Nat.testBit_zero, Nat.testBit_zero]
        split
        · rename_i z
          rw [show (2 * y + 1) % 2 = 1 by omega]
          simp [z.1, z.2]
        · rename_i z
          rw [show (2 * y + 0) % 2 = 0 by omega]
          clear d2 m2 e hy ih h
          by_cases a : x % 2 = 1 <;> by_cases b : s % 2 = 1
          · rw [decide_eq_true a, decide_eq_true b]; rfl
          · exact absurd ⟨a, b⟩ z
          · rw [decide_eq_false a, decide_eq_true b]; rfl
          · rw [decide_eq_false a, decide_eq_false b]; rfl
      | succ i =>
        rw [Nat.testBit_succ, Nat.testBit_succ, Nat.testBit_succ, ← hy]
        congr 1
        split <;> omega
theorem minus_and {n x y : Int} (n2 : n ≤ 62) (hx : Rw n x) (hy : Rw n y) : Rw n (wrap64 (x - bits .and .i64 x y)) ∧ ∀ w, 0 ≤ w → (tb (wrap64 (x - bits .and .i64 x y)) w = true ↔ tb x w = true ∧ ¬ tb y w = true) := by
  obtain ⟨a, rfl, a1, a2⟩ := hx.nat n2
  obtain ⟨b, rfl, b1, b2⟩ := hy.nat n2
  rw [and_nat a b (by omega) (by omega)]
  obtain ⟨c, e, hc⟩ := and_split 62 a b a2
  rw [show (a : Int) - ((a &&& b : Nat) : Int) = (c : Int) by omega, w64 (by omega) (by omega)]
  refine ⟨Rw.of (by omega), fun w w0 => ?_⟩
  obtain ⟨w, rfl⟩ := Int.eq_ofNat_of_zero_le w0
  rw [tb_nat, tb_nat, tb_nat, hc]
  simp
theorem one_rw {n j : Int} (n2 : n ≤ 62) (j0 : 0 ≤ j) (j1 : j < n) : Rw n (shl .i64 1 j) ∧ ∀ w, 0 ≤ w → (tb (shl .i64 1 j) w = true ↔ w = j) := by
  rw [shl_one j0 (by omega), show ((2 : Int) ^ j.toNat) = ((2 ^ j.toNat : Nat) : Int) by simp]
  refine ⟨Rw.of (Nat.pow_lt_pow_right (by decide) (by omega)), fun w w0 => ?_⟩
  obtain ⟨w, rfl⟩ := Int.eq_ofNat_of_zero_le w0
  rw [tb_nat, Nat.testBit_two_pow]
  simp
  omega
theorem zero_rw (n : Int) : Rw n 0 ∧ ∀ w, ¬ tb 0 w = true := by
  have p : (0 : Int) < 2 ^ n.toNat := Int.pow_pos (by decide)
  exact ⟨⟨by omega, p⟩, fun w => by simp [tb]⟩
/-- No digit: nothing. -/
theorem Rw.eq_zero {n x : Int} (n0 : 0 ≤ n) (hx : Rw n x) : x = 0 ↔ ∀ w, 0 ≤ w → w < n → ¬ tb x w = true := by
  constructor
  · rintro rfl w _ _
    exact (zero_rw n).2 w
  · intro h
    exact tb_ext hx.1 hx.2 (zero_rw n).1.1 (zero_rw n).1.2 n0 fun i i0 i1 => by
      have a := h i i0 i1
      have b := (zero_rw n).2 i
      simp at a b
      rw [a, b]
end Go.Proofs.YtkmpkcofddpdgaaDoor.Q
/- The program's list of a row's digits, least first. -/
namespace Go.Proofs.YtkmpkcofddpdgaaDoor.Q
open Go Go.RowKit Go.Proofs.YtkmpkcofddpdgaaDoor.P Go.Proofs.YtkmpkcofddpdgaaDoorW.PrintWords Go.Proofs.YtkmpkcofddpdgaaDoorW.PrintMore
/-- The digits of x among m, .., m + d - 1, least first. -/
def onesFrom (x : Nat) : Nat → Nat → List Int
  | 0, _ => []
  | d + 1, m => if x.testBit m then (m : Int) :: onesFrom x d (m + 1) else onesFrom x d (m + 1)
theorem onesFrom_zero (d : Nat) : ∀ m, onesFrom 0 d m = [] := by
  induction d with
  | zero => intro m; rfl
  | succ d ih => intro m; simp [onesFrom, ih]
theorem onesFrom_congr (x y : Nat) (d : Nat) : ∀ m, (∀ i, m ≤ i → x.testBit i = y.testBit i) → onesFrom x d m = onesFrom y d m := by
  induction d with
  | zero => intro m _; rfl
  | succ d ih =>
    intro m h
    simp only [onesFrom]
    rw [h m (Nat.le_refl _), ih (m + 1) fun i hi => h i (by omega)]
theorem ctz_at {x m : Nat} (hx : x < 2 ^ 64) (hb : x.testBit m = true) (hl : ∀ i, i < m → x.testBit i = false) : Lib.ctz 64 x = m ∧ ∃ q, x = 2 ^ m * (2 * q + 1) := by
  have h0 : x ≠ 0 := by rintro rfl; simp at hb
  obtain ⟨q, e, _⟩ := Lib.ctzFrom_spec 64 x (by omega) hx
  have ec : Lib.ctz 64 x = Lib.ctzFrom 64 x := by simp [Lib.ctz, h0]
  have ht : ∀ i, x.testBit i = (decide (i ≥ Lib.ctzFrom 64 x) && (2 * q + 1).testBit (i - Lib.ctzFrom 64 x)) := fun i => by rw [← Nat.testBit_two_pow_mul, ← e]
  generalize Lib.ctzFrom 64 x = c at *
  have hc : c = m := by
    rcases Nat.lt_trichotomy c m with h | h | h
    · have a := hl c h
      rw [ht c] at a
      simp at a
    · exact h
    · rw [ht m] at hb
      have : ¬ m ≥ c := by omega
      simp [this] at hb
  subst hc
  exact ⟨ec, q, e⟩
theorem and_pred {m q : Nat} : (2 ^ m * (2 * q + 1)) &&& (2 ^ m * (2 * q + 1) - 1) = 2 ^ m * (2 * q) := by
  have p := Nat.two_pow_pos m
  have e : 2 ^ m * (2 * q + 1) - 1 = 2 ^ m * (2 * q) + (2 ^ m - 1) := by rw [Nat.mul_add]; omega
  rw [e]
  refine Nat.eq_of_testBit_eq fun i => ?_
  rw [Nat.testBit_and, Nat.testBit_two_pow_mul, Nat.testBit_two_pow_mul_add _ (by omega), Nat.testBit_two_pow_mul]
  by_cases h : i < m
  · have : ¬ i ≥ m := by omega
    simp [this]
  · have : i ≥ m := by omega
    simp only [this, decide_true, Bool.true_and, h, if_false]
    cases i - m with
    | zero => simp
    | succ j => simp [Nat.testBit_succ]; rw [show (2 * q + 1) / 2 = q by omega]; simp
theorem pred_bit {m q i : Nat} (h : m < i) : (2 ^ m * (2 * q)).testBit i = (2 ^ m * (2 * q + 1)).testBit i := by
  rw [Nat.testBit_two_pow_mul, Nat.testBit_two_pow_mul]
  obtain ⟨j, hj⟩ : ∃ j, i - m = j + 1 := ⟨i - m - 1, by omega⟩
  rw [hj, Nat.testBit_succ, Nat.testBit_succ, show (2 * q + 1) / 2 = 2 * q / 2 by omega]
theorem pred_low {m q i : Nat} (h : i < m + 1) : (2 ^ m * (2 * q)).testBit i = false := by
  rw [Nat.testBit_two_pow_mul]
  by_cases e : i = m
  · subst e
    simp
  · have : ¬ i ≥ m := by omega
    simp [this]
theorem i_list_l0 (d : Nat) : ∀ (m x : Nat) (acc : List Int), d + m = 62 → x < 2 ^ 62 → (∀ i, i < m → x.testBit i = false) → acc.length ≤ m → Ev (fun k => impl_list.l0 k (x : Int) acc) (acc ++ onesFrom x d m) := by
  have done : ∀ d m (acc : List Int), Ev (fun k => impl_list.l0 k ((0 : Nat) : Int) acc) (acc ++ onesFrom 0 d m) := by
    intro d m acc
    rw [onesFrom_zero, List.append_nil]
    refine ev_k ?_
    simp only [impl_list.l0]
    exact ev_pos rfl (Ev.now _)
  induction d with
  | zero =>
    intro m x acc hd hx hl ha
    have : x = 0 := by
      refine Nat.eq_of_testBit_eq fun i => ?_
      rw [Nat.zero_testBit]
      by_cases hi : i < m
      · exact hl i hi
      · exact Nat.testBit_lt_two_pow (Nat.lt_of_lt_of_le hx (Nat.pow_le_pow_right (by decide) (by omega)))
    subst this
    exact done 0 m acc
  | succ d ih =>
    intro m x acc hd hx hl ha
    by_cases hb : x.testBit m = true
    · obtain ⟨hc, q, e⟩ := ctz_at (Nat.lt_trans hx (by decide)) hb hl
      have x0 : x ≠ 0 := by rintro rfl; simp at hb
      have hq : 2 ^ m * (2 * q) < 2 ^ 62 := Nat.lt_of_le_of_lt (Nat.mul_le_mul_left _ (by omega)) (e ▸ hx)
      have := ih (m + 1) (2 ^ m * (2 * q)) (acc ++ [(m : Int)]) (by omega) hq (fun i hi => pred_low hi) (by simp; omega)
      have e2 : acc ++ onesFrom x (d + 1) m = acc ++ [(m : Int)] ++ onesFrom (2 ^ m * (2 * q)) d (m + 1) := by
        simp only [onesFrom, hb, if_true]
        rw [onesFrom_congr x (2 ^ m * (2 * q)) d (m + 1) fun i hi => by rw [pred_bit (by omega), ← e]]
        simp
      rw [e2]
      refine ev_k ?_
      simp only [impl_list.l0]
      refine ev_neg (by omega) ?_
      rw [wu64 (a := (x : Int)) (by omega) (by omega), w64 (a := (x : Int) - 1) (by omega) (by omega), show (x : Int) - 1 = ((x - 1 : Nat) : Int) by omega, and_nat x (x - 1) (by omega) (by omega)]
      have ex : x &&& (x - 1) = 2 ^ m * (2 * q) := by rw [e]; exact and_pred
      rw [ex]
      refine ev_bind0 (a := (m : Int)) ?_ (ev_pos (by omega) this)
      unfold bits_TrailingZeros64.f
      rw [if_pos (by omega), if_pos (by omega), Int.toNat_natCast, hc]
    · have := ih (m + 1) x acc (by omega) hx (fun i hi => if h : i = m then by rw [h]; simpa using hb else hl i (by omega)) (by omega)
      have e : onesFrom x (d + 1) m = onesFrom x d (m + 1) := by simp [onesFrom, hb]
      rwa [e]
/-- The digits of a row. -/
def ones (x : Int) : List Int := onesFrom x.toNat 62 0
theorem i_list {x : Int} (h0 : 0 ≤ x) (h1 : x < 4611686018427387904) : Ev (fun k => impl_list.f k x) (ones x) := by
  obtain ⟨y, rfl⟩ := Int.eq_ofNat_of_zero_le h0
  unfold impl_list.f ones
  rw [Int.toNat_natCast]
  have := i_list_l0 62 0 y [] (by omega) (by omega) (fun i hi => by omega) (by simp)
  simpa using this
theorem onesFrom_mem (x : Nat) (d : Nat) : ∀ m (v : Int), v ∈ onesFrom x d m ↔ ∃ i : Nat, v = (i : Int) ∧ m ≤ i ∧ i < m + d ∧ x.testBit i = true := by
  induction d with
  | zero => intro m v; simp [onesFrom]; intro i _ _; omega
  | succ d ih =>
    intro m v
    simp only [onesFrom]
    have s : (∃ i : Nat, v = (i : Int) ∧ m ≤ i ∧ i < m + (d + 1) ∧ x.testBit i = true) ↔ (v = (m : Int) ∧ x.testBit m = true) ∨ ∃ i : Nat, v = (i : Int) ∧ m + 1 ≤ i ∧ i < m + 1 + d ∧ x.testBit i = true := by
      constructor
      · rintro ⟨i, rfl, h1, h2, h3⟩
        by_cases e : i = m
        · subst e
          exact .inl ⟨rfl, h3⟩
        · exact .inr ⟨i, rfl, by omega, by omega, h3⟩
      · rintro (⟨rfl, h⟩ | ⟨i, rfl, h1, h2, h3⟩)
        · exact ⟨m, rfl, by omega, by omega, h⟩
        · exact ⟨i, rfl, by omega, by omega, h3⟩
    rw [s, ← ih]
    by_cases h : x.testBit m = true
    · rw [if_pos h]
      simp [h]
    · rw [if_neg h]
      simp [h]
theorem ones_mem {n x : Int} (n0 : 0 ≤ n) (n2 : n ≤ 62) (x0 : 0 ≤ x) (x1 : x < 2 ^ n.toNat) (v : Int) : v ∈ ones x ↔ 0 ≤ v ∧ v < n ∧ tb x v = true := by
  unfold ones
  rw [onesFrom_mem]
  constructor
  · rintro ⟨i, rfl, h1, h2, h3⟩
    have ht : tb x i = true := by rw [tb_toNat x0 (by omega)]; simpa using h3
    refine ⟨by omega, ?_, ht⟩
    by_cases h : (i : Int) < n
    · exact h
    · rw [tb_high x0 x1 n0 (by omega)] at ht
      cases ht
  · rintro ⟨h1, h2, h3⟩
    refine ⟨v.toNat, by omega, by omega, by omega, ?_⟩
    rwa [tb_toNat x0 h1] at h3
theorem onesFrom_length (x : Nat) (d : Nat) : ∀ m, (onesFrom x d m).length ≤ d := by
  induction d with
  | zero => intro m; simp [onesFrom]
  | succ d ih =>
    intro m
    simp only [onesFrom]
    have := ih (m + 1)
    split <;> simp <;> omega
theorem ones_length (x : Int) : (ones x).length ≤ 62 := onesFrom_length _ 62 0
end Go.Proofs.YtkmpkcofddpdgaaDoor.Q
/- Distances by levels of digits: the program's list of them, and the reference's one number. -/
namespace Go.Proofs.YtkmpkcofddpdgaaDoor.Q
open Go Go.RowKit Go.Proofs.YtkmpkcofddpdgaaDoor.P Go.Proofs.YtkmpkcofddpdgaaDoorW.PrintWords Go.Proofs.YtkmpkcofddpdgaaDoorW.PrintMore
/-- A row whose digits are the vertices with P. -/
def Is (n x : Int) (P : Int → Prop) : Prop := Rw n x ∧ ∀ u, 0 ≤ u → u < n → (tb x u = true ↔ P u)
theorem Is.imp {n x : Int} {P Q : Int → Prop} (h : Is n x P) (e : ∀ u, 0 ≤ u → u < n → (P u ↔ Q u)) : Is n x Q := ⟨h.1, fun u u0 u1 => (h.2 u u0 u1).trans (e u u0 u1)⟩
/-- What a step leads to from level d, joined to what was met: what is met by d + 1; less what was met: the level d + 1. -/
theorem level_next {n : Int} {l : List Int} {s : Int} {r : List Int} (hr : Dist n l s r) {d S X : Int} (d0 : 0 ≤ d) (hX : Is n X fun u => ∃ w, (0 ≤ w ∧ w < n) ∧ rd r w = d ∧ tb (rd l w) u = true) (u : Int) (u0 : 0 ≤ u) (u1 : u < n) (hS : tb S u = true ↔ 0 ≤ rd r u ∧ rd r u ≤ d) : ((tb S u = true ∨ tb X u = true) ↔ 0 ≤ rd r u ∧ rd r u ≤ d + 1) ∧ ((tb X u = true ∧ ¬ tb S u = true) ↔ rd r u = d + 1) := by
  have a := hr.next d u d0 u0 u1
  rw [hS, hX.2 u u0 u1]
  constructor
  · constructor
    · rintro (z | z)
      · omega
      · by_cases q : 0 ≤ rd r u ∧ rd r u ≤ d
        · omega
        · have := a.2 ⟨z, q⟩
          omega
    · intro z
      by_cases q : 0 ≤ rd r u ∧ rd r u ≤ d
      · exact .inl q
      · exact .inr (a.1 (by omega)).1
  · exact a.symm
section
variable {n : Int} {l : List Int} (h : rows n l) {s : Int} (s0 : 0 ≤ s) (s1 : s < n) {r : List Int} (hr : Dist n l s r)
include h hr
theorem i_distances_l0 (M : Nat) (hM : ∀ u, 0 ≤ u → u < n → rd r u < (M : Int)) (e : Nat) : ∀ (d : Nat) (ds : List Int) (S L : Int), (M : Int) - d = e → (d : Int) ≤ 1000000 → (M : Int) ≤ 1000000 → (ds.length : Int) = n → (∀ u, 0 ≤ u → u < n → rd ds u = if 0 ≤ rd r u ∧ rd r u < d then rd r u else -1) → Is n S (fun u => 0 ≤ rd r u ∧ rd r u ≤ d) → Is n L (fun u => rd r u = d) → Ev (fun k => impl_Graph_distances.l0 k ds S L d n l) r := by
  have n2 := h.2.1
  have hl := h.2.2.1
  have n0 : 0 ≤ n := by have := h.1; omega
  have stop : ∀ (d : Nat) (ds : List Int) (S : Int), (ds.length : Int) = n → (∀ u, 0 ≤ u → u < n → rd ds u = if 0 ≤ rd r u ∧ rd r u < d then rd r u else -1) → (∀ u, 0 ≤ u → u < n → rd r u ≠ d) → Ev (fun k => impl_Graph_distances.l0 k ds S 0 d n l) r := by
    intro d ds S hlen hds hno
    have : ds = r := by
      refine rd_ext (by have := hr.len; omega) fun u u0 u1 => ?_
      have u1 : u < n := by omega
      rw [hds u u0 u1]
      have a := hr.stops d (by omega) hno u u0 u1
      have b := hr.low u u0 u1
      split <;> omega
    subst this
    refine ev_k ?_
    simp only [impl_Graph_distances.l0]
    exact ev_pos trivial (Ev.now _)
  induction e with
  | zero =>
    intro d ds S L he hd hM2 hlen hds hS hL
    have hno : ∀ u, 0 ≤ u → u < n → rd r u ≠ d := fun u u0 u1 => by have := hM u u0 u1; omega
    have : L = 0 := (hL.1.eq_zero n0).2 fun w w0 w1 z => hno w w0 w1 ((hL.2 w w0 w1).1 z)
    subst this
    exact stop d ds S hlen hds hno
  | succ e ih =>
    intro d ds S L he hd hM2 hlen hds hS hL
    by_cases hz : L = 0
    · subst hz
      exact stop d ds S hlen hds fun u u0 u1 z => (hL.1.eq_zero n0).1 rfl u u0 u1 ((hL.2 u u0 u1).2 z)
    · have hp := two_pow_le (n := n) n0 n2
      have inner : ∀ (ws pre ds : List Int) (X : Int), pre ++ ws = ones L → (ds.length : Int) = n → (∀ u, 0 ≤ u → u < n → rd ds u = if (0 ≤ rd r u ∧ rd r u < d) ∨ u ∈ pre then rd r u else -1) → Is n X (fun u => ∃ w, w ∈ pre ∧ tb (rd l w) u = true) → Ev (fun k => impl_Graph_distances.l1 k ds S d X (ones L) (ones L).length pre.length n l) r := by
        intro ws
        have ol := ones_length L
        have om := fun v => ones_mem n0 n2 hL.1.1 hL.1.2 v
        induction ws with
        | nil =>
          intro pre ds X hpre hlen hds hX
          rw [List.append_nil] at hpre
          subst hpre
          have hX2 : Is n X fun u => ∃ w, (0 ≤ w ∧ w < n) ∧ rd r w = d ∧ tb (rd l w) u = true := hX.imp fun u u0 u1 => by
            constructor
            · rintro ⟨w, hw, ht⟩
              obtain ⟨a, b, c⟩ := (om w).1 hw
              exact ⟨w, ⟨a, b⟩, (hL.2 w a b).1 c, ht⟩
            · rintro ⟨w, ⟨a, b⟩, c, ht⟩
              exact ⟨w, (om w).2 ⟨a, b, (hL.2 w a b).2 c⟩, ht⟩
          have o := or_rw n2 hS.1 hX.1
          have q := andNot_rw n2 hX.1 hS.1
          refine ev_k ?_
          simp only [impl_Graph_distances.l1]
          refine ev_neg (by omega) ?_
          rw [w64 (a := (d : Int) + 1) (by omega) (by omega)]
          refine ih (d + 1) ds _ _ (by omega) (by omega) hM2 hlen (fun u u0 u1 => ?_) ⟨o.1, fun u u0 u1 => ?_⟩ ⟨q.1, fun u u0 u1 => ?_⟩
          · rw [hds u u0 u1]
            have z : u ∈ ones L ↔ rd r u = d := (om u).trans ⟨fun z => (hL.2 u u0 u1).1 z.2.2, fun z => ⟨u0, u1, (hL.2 u u0 u1).2 z⟩⟩
            by_cases q : u ∈ ones L
            · have := z.1 q
              rw [if_pos (.inr q), if_pos (by omega)]
            · have q2 : rd r u ≠ d := fun e => q (z.2 e)
              by_cases p : 0 ≤ rd r u ∧ rd r u < d
              · rw [if_pos (.inl p), if_pos (by omega)]
              · rw [if_neg (by rintro (a | a); exact p a; exact q a), if_neg (by omega)]
          · rw [o.2 u u0]
            exact ((level_next hr (by omega) hX2 u u0 u1 (hS.2 u u0 u1)).1).trans (by omega)
          · rw [q.2 u u0]
            exact ((level_next hr (by omega) hX2 u u0 u1 (hS.2 u u0 u1)).2).trans (by omega)
        | cons w ws ihw =>
          intro pre ds X hpre hlen hds hX
          have hlt : pre.length < (ones L).length := by rw [← hpre]; simp
          have hw : rd (ones L) pre.length = w := by
            rw [← hpre]
            simp [rd, List.getD_eq_getElem?_getD]
          obtain ⟨w0, w1, wt⟩ := (om w).1 (by rw [← hpre]; simp)
          have hwd := (hL.2 w w0 w1).1 wt
          have o := or_rw n2 hX.1 (h.2.2.2 w w0 w1)
          refine ev_k ?_
          simp only [impl_Graph_distances.l1, hw]
          refine ev_pos (by omega) (ev_pos (by omega) (ev_pos (by omega) (ev_pos w0 (ev_pos (by omega) (ev_pos (by omega) ?_)))))
          rw [w64 (a := (pre.length : Int) + 1) (by omega) (by omega)]
          have := ihw (pre ++ [w]) (ds.set w.toNat d) (bits .or .i64 X (rd l w)) (by rw [← hpre]; simp) (by simpa using hlen) (fun u u0 u1 => ?_) ⟨o.1, fun u u0 u1 => ?_⟩
          · simpa using this
          · rw [rd_set _ w0 (by omega) u0]
            by_cases e : u = w
            · subst e
              rw [if_pos rfl, if_pos (.inr (by simp)), hwd]
            · rw [if_neg e, hds u u0 u1]
              simp [e]
          · rw [o.2 u u0, hX.2 u u0 u1]
            constructor
            · rintro (⟨x, hx, ht⟩ | ht)
              · exact ⟨x, by simp [hx], ht⟩
              · exact ⟨w, by simp, ht⟩
            · rintro ⟨x, hx, ht⟩
              rcases List.mem_append.1 hx with hx | hx
              · exact .inl ⟨x, hx, ht⟩
              · obtain rfl : x = w := by simpa using hx
                exact .inr ht
      refine ev_k ?_
      simp only [impl_Graph_distances.l0]
      refine ev_neg hz (Ev.bind (i_list hL.1.1 (by have := hL.1.2; omega)) ?_)
      have := inner (ones L) [] ds 0 (by simp) hlen (fun u u0 u1 => by rw [hds u u0 u1]; simp) ⟨(zero_rw n).1, fun u u0 u1 => ⟨fun z => absurd z ((zero_rw n).2 u), fun ⟨w, hw, _⟩ => by cases hw⟩⟩
      simpa using this
include s0 s1
/-- The program's list of distances. -/
theorem i_distances : Ev (fun k => impl_Graph_distances.f k n l s) r := by
  have n2 := h.2.1
  have n0 : 0 ≤ n := by have := h.1; omega
  have hb : ∀ u, 0 ≤ u → u < n → rd r u < 1000000 := fun u u0 u1 => by have := hr.small u u0 u1; omega
  obtain ⟨o1, o2⟩ := one_rw n2 s0 s1
  unfold impl_Graph_distances.f
  refine ev_bind0 (a := List.replicate n.toNat (-1)) ?_ (ev_pos s0 ?_)
  · unfold slices_Repeat_int64_int64.f
    rw [if_pos (show ([-1] : List Int).length = 1 from rfl), if_pos n0, if_pos (by omega)]
    rfl
  · refine i_distances_l0 h hr 1000000 hb 1000000 0 _ _ _ (by omega) (by omega) (by omega) (by simp; omega) (fun u u0 u1 => ?_) ⟨o1, fun u u0 u1 => ?_⟩ ⟨o1, fun u u0 u1 => ?_⟩
    · have : u.toNat < n.toNat := by omega
      rw [if_neg (by omega)]
      simp [rd, List.getD_eq_getElem?_getD, this]
    · rw [o2 u u0, ← hr.src u u0 u1]
      omega
    · rw [o2 u u0, ← hr.src u u0 u1]
      omega
end
section
variable {n : Int} {l : List Int} (h : rows n l) {s : Int} (s0 : 0 ≤ s) (s1 : s < n) {r : List Int} (hr : Dist n l s r) {t : Int} (t0 : 0 ≤ t) (t1 : t < n)
include h hr t0 t1
theorem s_far_l0 (e : Nat) : ∀ (d : Nat) (S L : Int), (62 : Int) - d = e → ¬ (0 ≤ rd r t ∧ rd r t < d) → Is n S (fun u => 0 ≤ rd r u ∧ rd r u ≤ d) → Is n L (fun u => rd r u = d) → Ev (fun k => spec_l07Far.l0 k t S L d n l) (rd r t) := by
  have n2 := h.2.1
  have hl := h.2.2.1
  have n0 : 0 ≤ n := by have := h.1; omega
  have stop : ∀ (d : Nat) (S : Int), ¬ (0 ≤ rd r t ∧ rd r t < d) → (∀ u, 0 ≤ u → u < n → rd r u ≠ d) → Ev (fun k => spec_l07Far.l0 k t S 0 d n l) (rd r t) := by
    intro d S hnot hno
    have a := hr.stops d (by omega) hno t t0 t1
    have b := hr.low t t0 t1
    rw [show rd r t = -1 by omega]
    refine ev_k ?_
    simp only [spec_l07Far.l0]
    exact ev_pos trivial (Ev.now _)
  induction e with
  | zero =>
    intro d S L he hnot hS hL
    have hno : ∀ u, 0 ≤ u → u < n → rd r u ≠ d := fun u u0 u1 => by have := hr.small u u0 u1; omega
    have : L = 0 := (hL.1.eq_zero n0).2 fun w w0 w1 z => hno w w0 w1 ((hL.2 w w0 w1).1 z)
    subst this
    exact stop d S hnot hno
  | succ e ih =>
    intro d S L he hnot hS hL
    by_cases hz : L = 0
    · subst hz
      exact stop d S hnot fun u u0 u1 z => (hL.1.eq_zero n0).1 rfl u u0 u1 ((hL.2 u u0 u1).2 z)
    · have bq : ∀ u, 0 ≤ u → u < n → (bits .and .i64 (shr .i64 L u) 1 = 1 ↔ rd r u = d) := fun u u0 u1 => by
        rw [bit_at u0 (by omega)]
        refine Iff.trans ?_ (hL.2 u u0 u1)
        cases tb L u <;> simp
      refine ev_k ?_
      simp only [spec_l07Far.l0]
      rw [wu64 t0 (by omega)]
      refine ev_neg hz (ev_pos t0 ?_)
      by_cases hd : rd r t = d
      · rw [hd]
        exact ev_pos ((bq t t0 t1).2 hd) (Ev.now _)
      · refine ev_neg (fun z => hd ((bq t t0 t1).1 z)) ?_
        have inner : ∀ (q : Nat) (v X : Int), 0 ≤ v → v ≤ n → n - v = q → Is n X (fun u => ∃ w, (0 ≤ w ∧ w < v) ∧ rd r w = d ∧ tb (rd l w) u = true) → Ev (fun k => spec_l07Far.l1 k t S L d X v n l) (rd r t) := by
          intro q
          induction q with
          | zero =>
            intro v X v0 v1 hq hX
            obtain rfl : v = n := by omega
            have o := or_rw n2 hS.1 hX.1
            have q := minus_and n2 hX.1 hS.1
            refine ev_k ?_
            simp only [spec_l07Far.l1]
            refine ev_neg (by omega) ?_
            rw [w64 (a := (d : Int) + 1) (by omega) (by omega)]
            refine ih (d + 1) _ _ (by omega) (by omega) ⟨o.1, fun u u0 u1 => ?_⟩ ⟨q.1, fun u u0 u1 => ?_⟩
            · rw [o.2 u u0]
              exact ((level_next hr (by omega) hX u u0 u1 (hS.2 u u0 u1)).1).trans (by omega)
            · rw [q.2 u u0]
              exact ((level_next hr (by omega) hX u u0 u1 (hS.2 u u0 u1)).2).trans (by omega)
          | succ q ihq =>
            intro v X v0 v1 hq hX
            refine ev_k ?_
            simp only [spec_l07Far.l1]
            rw [wu64 v0 (by omega), w64 (a := v + 1) (by omega) (by omega)]
            refine ev_pos (by omega) (ev_pos v0 ?_)
            by_cases hv : rd r v = d
            · refine ev_pos ((bq v v0 (by omega)).2 hv) (ev_pos v0 (ev_pos (by omega) ?_))
              have o := or_rw n2 hX.1 (h.2.2.2 v v0 (by omega))
              refine ihq (v + 1) _ (by omega) (by omega) (by omega) ⟨o.1, fun u u0 u1 => ?_⟩
              rw [o.2 u u0, hX.2 u u0 u1]
              constructor
              · rintro (⟨w, hw, hd', ht⟩ | ht)
                · exact ⟨w, by omega, hd', ht⟩
                · exact ⟨v, by omega, hv, ht⟩
              · rintro ⟨w, hw, hd', ht⟩
                by_cases e : w = v
                · subst e
                  exact .inr ht
                · exact .inl ⟨w, by omega, hd', ht⟩
            · refine ev_neg (fun z => hv ((bq v v0 (by omega)).1 z)) ?_
              refine ihq (v + 1) X (by omega) (by omega) (by omega) (hX.imp fun u u0 u1 => ?_)
              constructor
              · rintro ⟨w, hw, hd', ht⟩
                exact ⟨w, by omega, hd', ht⟩
              · rintro ⟨w, hw, hd', ht⟩
                by_cases e : w = v
                · subst e
                  exact absurd hd' hv
                · exact ⟨w, by omega, hd', ht⟩
        exact inner n.toNat 0 0 (by omega) n0 (by omega) ⟨(zero_rw n).1, fun u u0 u1 => ⟨fun z => absurd z ((zero_rw n).2 u), fun ⟨w, hw, _⟩ => by omega⟩⟩
include s0 s1
/-- The reference's one distance. -/
theorem s_far : Ev (fun k => spec_l07Far.f k n l s t) (rd r t) := by
  have n2 := h.2.1
  obtain ⟨o1, o2⟩ := one_rw n2 s0 s1
  unfold spec_l07Far.f
  rw [wu64 s0 (by omega)]
  refine ev_pos s0 (s_far_l0 h hr t0 t1 62 0 _ _ (by omega) (by omega) ⟨o1, fun u u0 u1 => ?_⟩ ⟨o1, fun u u0 u1 => ?_⟩)
  · rw [o2 u u0, ← hr.src u u0 u1]
    omega
  · rw [o2 u u0, ← hr.src u u0 u1]
    omega
end
end Go.Proofs.YtkmpkcofddpdgaaDoor.Q
/- The girth of words: the reference's flat lists of states, the program's rows of digits. -/
namespace Go.Proofs.YtkmpkcofddpdgaaDoor.Q
open Go Go.RowKit Go.Proofs.YtkmpkcofddpdgaaDoor.P Go.Proofs.YtkmpkcofddpdgaaDoorW.PrintWords Go.Proofs.YtkmpkcofddpdgaaDoorW.PrintMore
theorem flat_put {o c y j : Int} (o2 : o ≤ 62) (c2 : c ≤ 62) (y0 : 0 ≤ y) (y1 : y < o) (j0 : 0 ≤ j) (j1 : j < c) : (0 ≤ y * c ∧ y * c ≤ 3844 ∧ y * c + j < o * c ∧ o * c ≤ 3844) ∧ (y * c + j) / c = y ∧ (y * c + j) % c = j := by
  have a : 0 ≤ y * c := Int.mul_nonneg y0 (by omega)
  have b : (y + 1) * c ≤ o * c := Int.mul_le_mul_of_nonneg_right (by omega) (by omega)
  have d : o * c ≤ 62 * 62 := Int.mul_le_mul o2 c2 (by omega) (by omega)
  rw [Int.add_mul, Int.one_mul] at b
  refine ⟨⟨a, by omega, by omega, by omega⟩, ?_⟩
  exact (Int.ediv_emod_unique (by omega : 0 < c)).2 ⟨by rw [Int.mul_comm]; omega, j0, j1⟩
theorem flat_at {o c st : Int} (c1 : 0 < c) (s0 : 0 ≤ st) (s1 : st < o * c) : (0 ≤ st / c ∧ st / c < o) ∧ (0 ≤ st % c ∧ st % c < c) ∧ st = st / c * c + st % c :=
  ⟨⟨Int.ediv_nonneg s0 (by omega), Int.ediv_lt_of_lt_mul c1 s1⟩, ⟨Int.emod_nonneg _ (by omega), Int.emod_lt_of_pos _ c1⟩, by have := Int.mul_ediv_add_emod st c; rw [Int.mul_comm] at this; omega⟩
/-- A flat list of states. -/
def Fl (o c : Int) (g : List Bool) (S : Int → Int → Prop) : Prop := (g.length : Int) = o * c ∧ ∀ st, 0 ≤ st → st < o * c → (rdOf false g st = true ↔ S (st / c) (st % c))
theorem Fl.imp {o c : Int} {g : List Bool} {S T : Int → Int → Prop} (h : Fl o c g S) (e : ∀ y j, 0 ≤ y → y < o → 0 ≤ j → j < c → (S y j ↔ T y j)) (c0 : 0 ≤ c) : Fl o c g T := ⟨h.1, fun st s0 s1 => by
  by_cases c1 : 0 < c
  · obtain ⟨a, b, _⟩ := flat_at c1 s0 s1
    exact (h.2 st s0 s1).trans (e _ _ a.1 a.2 b.1 b.2)
  · obtain rfl : c = 0 := by omega
    rw [Int.mul_zero] at s1
    omega⟩
theorem Fl.put {o c : Int} {g : List Bool} {P : Int → Int → Prop} (h : Fl o c g P) (o2 : o ≤ 62) (c2 : c ≤ 62) {y j : Int} (y0 : 0 ≤ y) (y1 : y < o) (j0 : 0 ≤ j) (j1 : j < c) : Fl o c (g.set (y * c + j).toNat true) (fun a b => P a b ∨ (a = y ∧ b = j)) := by
  obtain ⟨⟨a0, a1, a2, a3⟩, e1, e2⟩ := flat_put o2 c2 y0 y1 j0 j1
  refine ⟨by simpa using h.1, fun st s0 s1 => ?_⟩
  rw [rdOf_set true (by omega) (by have := h.1; omega) s0]
  by_cases e : st = y * c + j
  · rw [if_pos e, e, e1, e2]
    simp
  · rw [if_neg e, h.2 st s0 s1]
    constructor
    · exact .inl
    · rintro (z | ⟨z, w⟩)
      · exact z
      · have := (flat_at (by omega) s0 s1).2.2
        rw [z, w] at this
        exact absurd this e
theorem Fl.none {o c : Int} (h : 0 ≤ o * c) : Fl o c (List.replicate (o * c).toNat false) (fun _ _ => False) := by
  refine ⟨by simp; omega, fun st s0 s1 => ?_⟩
  have : st.toNat < (o * c).toNat := by omega
  simp [rdOf, List.getD_eq_getElem?_getD, this]
/-- One letter more. -/
def stepW (k p : Int) (l : List Int) (x i y j : Int) : Prop := y = gmul k p x (rd l j) ∧ gmul k p (rd l i) (rd l j) ≠ 0
open Classical in
/-- The least number of letters, from L on, of a word that is the unit; 0 if there is none. -/
noncomputable def gw (k p : Int) (l : List Int) : Nat → Nat → Int
  | 0, _ => 0
  | d + 1, L => if ∃ i, Wd k p l (L - 1) 0 i then (L : Int) else gw k p l d (L + 1)
section
variable {k p : Int} (hg : gok k p) (l : List Int) (hl : l.length ≤ 1048576) (hm : ∀ x ∈ l, 0 ≤ x ∧ x < gord k p) (hc : conn k p l)
include hg hm in
theorem Wd_range (m : Nat) {x i : Int} (h : Wd k p l m x i) : (0 ≤ x ∧ x < gord k p) ∧ (0 ≤ i ∧ i < l.length) := by
  cases m with
  | zero =>
    obtain ⟨hi, rfl⟩ := h
    exact ⟨hm _ (l_at l hi.1 hi.2), hi⟩
  | succ m =>
    obtain ⟨hj, x, i, ⟨hx, _⟩, _, rfl, _⟩ := h
    have := hm _ (l_at l hj.1 hj.2)
    exact ⟨gmul_range hg hx.1 hx.2 this.1 this.2, hj⟩
include hg hl hm hc
theorem s_girth_l1 (d : Nat) : ∀ (L : Nat) (g : List Bool), L + d = 17 → 2 ≤ L → Fl (gord k p) l.length g (Wd k p l (L - 2)) → Ev (fun K => spec_l05Girth.l1 K l (gord k p) (l.length : Int) g (L : Int) k p) (gw k p l d L) := by
  obtain ⟨o1, o2⟩ := gord_pos hg
  have c2 : (l.length : Int) ≤ 62 := by have := conn_len hg l hl hm hc; omega
  have c0 : 0 ≤ (l.length : Int) := by omega
  have oc0 : 0 ≤ gord k p * (l.length : Int) := Int.mul_nonneg (by omega) c0
  have oc1 : gord k p * (l.length : Int) ≤ 62 * 62 := Int.mul_le_mul o2 c2 c0 (by omega)
  have woc : wrap64 (gord k p * (l.length : Int)) = gord k p * (l.length : Int) := w64 (by omega) (by omega)
  induction d with
  | zero =>
    intro L g hL h2 hf
    refine ev_k ?_
    simp only [spec_l05Girth.l1]
    exact ev_neg (by omega) (Ev.now _)
  | succ d ih =>
    intro L g hL h2 hf
    have l4 : ∀ (nx : List Bool), Fl (gord k p) l.length nx (Wd k p l (L - 1)) → ∀ (e : Nat) (i : Int), 0 ≤ i → i ≤ l.length → l.length - i = e → (∀ j, 0 ≤ j → j < i → ¬ Wd k p l (L - 1) 0 j) → Ev (fun K => spec_l05Girth.l4 K l (gord k p) (l.length : Int) (L : Int) nx i k p) (gw k p l (d + 1) L) := by
      intro nx hx e
      induction e with
      | zero =>
        intro i i0 i1 he hno
        have hne : ¬ ∃ i, Wd k p l (L - 1) 0 i := fun ⟨j, hj⟩ => by
          have := (Wd_range hg l hm _ hj).2
          exact hno j this.1 (by omega) hj
        have := ih (L + 1) nx (by omega) (by omega) (by rw [show L + 1 - 2 = L - 1 by omega]; exact hx)
        refine ev_k ?_
        simp only [spec_l05Girth.l4, gw]
        rw [if_neg hne, w64 (a := (L : Int) + 1) (by omega) (by omega)]
        exact ev_neg (by omega) this
      | succ e ihe =>
        intro i i0 i1 he hno
        have hi : i < gord k p * (l.length : Int) := by
          have : 1 * (l.length : Int) ≤ gord k p * (l.length : Int) := Int.mul_le_mul_of_nonneg_right (by omega) c0
          omega
        have hq := hx.2 i i0 hi
        rw [Int.ediv_eq_zero_of_lt i0 (by omega), Int.emod_eq_of_lt i0 (by omega)] at hq
        refine ev_k ?_
        simp only [spec_l05Girth.l4]
        refine ev_pos (by omega) (ev_pos i0 (ev_pos (by have := hx.1; omega) ?_))
        by_cases hb : rdOf false nx i = true
        · refine ev_pos hb ?_
          simp only [gw]
          rw [if_pos ⟨i, hq.1 hb⟩]
          exact Ev.now _
        · refine ev_neg hb ?_
          rw [w64 (a := i + 1) (by omega) (by omega)]
          exact ihe (i + 1) (by omega) (by omega) (by omega) fun j j0 j1 hj => by
            by_cases z : j = i
            · exact hb (hq.2 (z ▸ hj))
            · exact hno j j0 (by omega) hj
    have l2 : ∀ (e : Nat) (st : Int) (nx : List Bool), 0 ≤ st → st ≤ gord k p * l.length → gord k p * l.length - st = e → Fl (gord k p) l.length nx (fun y j => ∃ s, (0 ≤ s ∧ s < st) ∧ Wd k p l (L - 2) (s / l.length) (s % l.length) ∧ stepW k p l (s / l.length) (s % l.length) y j) → Ev (fun K => spec_l05Girth.l2 K l (gord k p) (l.length : Int) g (L : Int) nx st k p) (gw k p l (d + 1) L) := by
      intro e
      induction e with
      | zero =>
        intro st nx s0 s1 he hx
        have := l4 nx (hx.imp (fun y j y0 y1 j0 j1 => by
          rw [show L - 1 = L - 2 + 1 by omega]
          simp only [Wd, nextW, stepW]
          constructor
          · rintro ⟨s, hs, hw, e1, e2⟩
            obtain ⟨a, b, _⟩ := flat_at (o := gord k p) (c := l.length) (by omega) hs.1 (by omega)
            exact ⟨⟨j0, j1⟩, _, _, ⟨a, b⟩, hw, e1, e2⟩
          · rintro ⟨_, x, i, ⟨hx, hi⟩, hw, e1, e2⟩
            obtain ⟨⟨a0, a1, a2, a3⟩, b1, b2⟩ := flat_put o2 c2 hx.1 hx.2 hi.1 hi.2
            refine ⟨x * l.length + i, by omega, ?_⟩
            rw [b1, b2]
            exact ⟨hw, e1, e2⟩) c0) l.length 0 (by omega) (by omega) (by omega) (fun j j0 j1 => by omega)
        refine ev_k ?_
        simp only [spec_l05Girth.l2]
        rw [woc]
        exact ev_neg (by omega) this
      | succ e ihe =>
        intro st nx s0 s1 he hx
        have hst : st < gord k p * l.length := by omega
        have c1 : 0 < (l.length : Int) := by
          rcases Int.lt_or_eq_of_le c0 with z | z
          · exact z
          · rw [← z, Int.mul_zero] at hst
            omega
        obtain ⟨⟨a0, a1⟩, ⟨b0, b1⟩, ab⟩ := flat_at (o := gord k p) c1 s0 hst
        have hgl := hf.1
        have l3 : ∀ (c : Nat) (i : Int) (nx : List Bool), 0 ≤ i → i ≤ l.length → l.length - i = c → Fl (gord k p) l.length nx (fun y j => (∃ s, (0 ≤ s ∧ s < st) ∧ Wd k p l (L - 2) (s / l.length) (s % l.length) ∧ stepW k p l (s / l.length) (s % l.length) y j) ∨ (j < i ∧ Wd k p l (L - 2) (st / l.length) (st % l.length) ∧ stepW k p l (st / l.length) (st % l.length) y j)) → Ev (fun K => spec_l05Girth.l3 K l (gord k p) (l.length : Int) g (L : Int) nx st i k p) (gw k p l (d + 1) L) := by
          intro c
          induction c with
          | zero =>
            intro i nx i0 i1 hcc hx
            have := ihe (st + 1) nx (by omega) (by omega) (by omega) (hx.imp (fun y j y0 y1 j0 j1 => by
              constructor
              · rintro (⟨s, hs, h⟩ | ⟨_, h⟩)
                · exact ⟨s, by omega, h⟩
                · exact ⟨st, by omega, h⟩
              · rintro ⟨s, hs, h⟩
                by_cases z : s = st
                · exact .inr ⟨by omega, z ▸ h⟩
                · exact .inl ⟨s, by omega, h⟩) c0)
            refine ev_k ?_
            simp only [spec_l05Girth.l3]
            refine ev_neg (by omega) (ev_k ?_)
            simp only [spec_l05Girth.j4]
            rw [w64 (a := st + 1) (by omega) (by omega)]
            exact ev_neg (by decide) this
          | succ c ihc =>
            intro i nx i0 i1 hcc hx
            have hli := hm _ (l_at l i0 (by omega))
            have hlb := hm _ (l_at l b0 b1)
            have hbit := hf.2 st s0 hst
            refine ev_k ?_
            simp only [spec_l05Girth.l3]
            refine ev_pos (by omega) (ev_pos s0 (ev_pos (by omega) (ev_k ?_)))
            simp only [spec_l05Girth.j4]
            by_cases hb : rdOf false g st = true
            · refine ev_pos hb (ev_neg (by omega) ?_)
              rw [Int.tmod_eq_emod_of_nonneg s0, Int.tdiv_eq_ediv_of_nonneg s0, w64 (a := i + 1) (by omega) (by omega), w64 (a := st / (l.length : Int)) (by omega) (by omega)]
              refine ev_pos b0 (ev_pos b1 (ev_pos i0 (ev_pos (by omega) (ev_bind0 (s_times hg hlb.1 hlb.2 hli.1 hli.2) ?_))))
              by_cases hz : gmul k p (rd l (st % l.length)) (rd l i) = 0
              · refine ev_pos hz (ihc (i + 1) nx (by omega) (by omega) (by omega) (hx.imp (fun y j y0 y1 j0 j1 => or_congr Iff.rfl ⟨fun z => ⟨by omega, z.2⟩, fun z => ⟨?_, z.2⟩⟩) c0))
                by_cases q : j = i
                · subst q
                  exact absurd hz z.2.2.2
                · have := z.1
                  omega
              · refine ev_neg hz (ev_bind0 (s_times hg a0 a1 hli.1 hli.2) ?_)
                have hr := gmul_range hg a0 a1 hli.1 hli.2
                generalize hy : gmul k p (st / l.length) (rd l i) = y at hr
                obtain ⟨⟨f0, f1, f2, f3⟩, g1, g2⟩ := flat_put o2 c2 hr.1 hr.2 i0 (by omega : i < l.length)
                rw [w64 (a := y * (l.length : Int)) (by omega) (by omega), w64 (a := y * (l.length : Int) + i) (by omega) (by omega)]
                refine ev_pos (by omega) (ev_pos (by have := hx.1; omega) (ihc (i + 1) _ (by omega) (by omega) (by omega) ((hx.put o2 c2 hr.1 hr.2 i0 (by omega)).imp (fun a j a0 a1 j0 j1 => ?_) c0)))
                constructor
                · rintro ((z | z) | ⟨rfl, rfl⟩)
                  · exact .inl z
                  · exact .inr ⟨by omega, z.2⟩
                  · exact .inr ⟨by omega, hbit.1 hb, hy.symm, hz⟩
                · rintro (z | z)
                  · exact .inl (.inl z)
                  · by_cases q : j = i
                    · subst q
                      exact .inr ⟨z.2.2.1.trans hy, rfl⟩
                    · have := z.1
                      exact .inl (.inr ⟨by omega, z.2⟩)
            · have := ihe (st + 1) nx (by omega) (by omega) (by omega) (hx.imp (fun y j y0 y1 j0 j1 => by
                constructor
                · rintro (⟨s, hs, h⟩ | ⟨_, h, _⟩)
                  · exact ⟨s, by omega, h⟩
                  · exact absurd (hbit.2 h) hb
                · rintro ⟨s, hs, h⟩
                  by_cases z : s = st
                  · subst z
                    exact absurd (hbit.2 h.1) hb
                  · exact .inl ⟨s, by omega, h⟩) c0)
              rw [w64 (a := st + 1) (by omega) (by omega)]
              exact ev_neg hb this
        refine ev_k ?_
        simp only [spec_l05Girth.l2]
        rw [woc]
        exact ev_pos (by omega) (l3 l.length 0 nx (by omega) (by omega) (by omega) (hx.imp (fun y j y0 y1 j0 j1 => ⟨.inl, fun z => z.elim id fun z => by have := z.1; omega⟩) c0))
    have := l2 (gord k p * l.length).toNat 0 _ (by omega) (by omega) (by omega) ((Fl.none oc0).imp (fun y j y0 y1 j0 j1 => ⟨False.elim, fun ⟨s, hs, _⟩ => by omega⟩) c0)
    refine ev_k ?_
    simp only [spec_l05Girth.l1]
    rw [woc]
    exact ev_pos (by omega) (ev_pos oc0 (ev_pos (by omega) this))
theorem s_girth : Ev (fun K => spec_l05Girth.f K k p l) (gw k p l 15 2) := by
  obtain ⟨o1, o2⟩ := gord_pos hg
  have c2 : (l.length : Int) ≤ 62 := by have := conn_len hg l hl hm hc; omega
  have c0 : 0 ≤ (l.length : Int) := by omega
  have oc0 : 0 ≤ gord k p * (l.length : Int) := Int.mul_nonneg (by omega) c0
  have oc1 : gord k p * (l.length : Int) ≤ 62 * 62 := Int.mul_le_mul o2 c2 c0 (by omega)
  have l0 : ∀ (e : Nat) (i : Int) (g : List Bool), 0 ≤ i → i ≤ l.length → l.length - i = e → Fl (gord k p) l.length g (fun x j => j < i ∧ x = rd l j) → Ev (fun K => spec_l05Girth.l0 K l (gord k p) (l.length : Int) g i k p) (gw k p l 15 2) := by
    intro e
    induction e with
    | zero =>
      intro i g i0 i1 he hf
      refine ev_k ?_
      simp only [spec_l05Girth.l0]
      exact ev_neg (by omega) (s_girth_l1 hg l hl hm hc 15 2 g (by omega) (by omega) (hf.imp (fun x j _ _ j0 j1 => ⟨fun z => ⟨⟨j0, j1⟩, z.2⟩, fun z => ⟨by omega, z.2⟩⟩) c0))
    | succ e ih =>
      intro i g i0 i1 he hf
      have hr := hm _ (l_at l i0 (by omega))
      obtain ⟨⟨f0, f1, f2, f3⟩, g1, g2⟩ := flat_put o2 c2 hr.1 hr.2 i0 (by omega : i < l.length)
      refine ev_k ?_
      simp only [spec_l05Girth.l0]
      rw [w64 (a := rd l i * (l.length : Int)) (by omega) (by omega), w64 (a := rd l i * (l.length : Int) + i) (by omega) (by omega), w64 (a := i + 1) (by omega) (by omega)]
      refine ev_pos (by omega) (ev_pos i0 (ev_pos (by omega) (ev_pos (by omega) (ev_pos (by have := hf.1; omega) (ih (i + 1) _ (by omega) (by omega) (by omega) ((hf.put o2 c2 hr.1 hr.2 i0 (by omega)).imp (fun x j _ _ j0 j1 => ?_) c0))))))
      constructor
      · rintro (⟨z, rfl⟩ | ⟨rfl, rfl⟩)
        · exact ⟨by omega, rfl⟩
        · exact ⟨by omega, rfl⟩
      · rintro ⟨z, rfl⟩
        by_cases q : j = i
        · subst q
          exact .inr ⟨rfl, rfl⟩
        · exact .inl ⟨by omega, rfl⟩
  unfold spec_l05Girth.f
  refine ev_bind0 (s_order hg) ?_
  rw [w64 (a := gord k p * (l.length : Int)) (by omega) (by omega)]
  exact ev_pos oc0 (ev_pos (by omega) (l0 l.length 0 _ (by omega) (by omega) (by omega) ((Fl.none oc0).imp (fun x j _ _ j0 j1 => ⟨False.elim, fun z => by have := z.1; omega⟩) c0)))
end
end Go.Proofs.YtkmpkcofddpdgaaDoor.Q
/- What the laws' own small functions come to: copies, comparisons, marks. -/
namespace Go.Proofs.YtkmpkcofddpdgaaDoor.Q
open Go Go.RowKit Go.Proofs.YtkmpkcofddpdgaaDoor.P Go.Proofs.YtkmpkcofddpdgaaDoorW.PrintWords Go.Proofs.YtkmpkcofddpdgaaDoorW.PrintMore

theorem rd_at (l : List Int) (i : Int) (h1 : i.toNat < l.length) : rd l i = l[i.toNat] := by
  simp [rd, List.getD_eq_getElem?_getD, List.getElem?_eq_getElem h1]
theorem toS_l0 (l : List Int) (hl : l.length < 9223372036854775807) (d : Nat) : ∀ (m : List Int) (i : Int), 0 ≤ i → i ≤ l.length → l.length - i = d → m.length = l.length → (∀ j, j < i.toNat → m[j]? = l[j]?) →
    Ev (fun k => laws_toInt64S.l0 k l m i) l := by
  induction d with
  | zero =>
    intro m i h0 h1 hd hm hj
    refine ev_k ?_
    simp only [laws_toInt64S.l0]
    refine ev_neg (by omega) (ev_some (List.ext_getElem? fun j => ?_))
    by_cases h : j < i.toNat
    · exact hj j h
    · rw [List.getElem?_eq_none (by omega), List.getElem?_eq_none (by omega)]
  | succ d ih =>
    intro m i h0 h1 hd hm hj
    refine ev_k ?_
    simp only [laws_toInt64S.l0]
    refine ev_pos (by omega) (ev_pos h0 (ev_pos (by omega) ?_))
    rw [w64 (a := i + 1) (by omega) (by omega)]
    refine ih _ (i + 1) (by omega) (by omega) (by omega) (by simpa using hm) fun j h => ?_
    rw [List.getElem?_set]
    split
    · subst_vars
      rw [if_pos (by omega), rd_at l i (by omega), List.getElem?_eq_getElem]
    · exact hj j (by omega)
theorem toS (l : List Int) (hl : l.length ≤ 35184372088832) : Ev (fun k => laws_toInt64S.f k l) l := by
  unfold laws_toInt64S.f
  refine ev_pos (by omega) (ev_pos (by omega) ?_)
  exact toS_l0 l (by omega) l.length _ 0 (by omega) (by omega) (by omega) (by simp) (fun j h => by simp at h)

theorem eqS_l0 (l m : List Int) (e : l.length = m.length) (hl : l.length < 9223372036854775807) (d : Nat) : ∀ (i : Int), 0 ≤ i → i ≤ l.length → l.length - i = d →
    Ev (fun k => laws_eqInt64S.l0 k l m i) (decide (l.drop i.toNat = m.drop i.toNat)) := by
  have dc : ∀ (l : List Int) (i : Int), 0 ≤ i → i < l.length → l.drop i.toNat = rd l i :: l.drop (i + 1).toNat := fun l i h0 h1 => by
    rw [List.drop_eq_getElem_cons (by omega : i.toNat < l.length), show (i + 1).toNat = i.toNat + 1 by omega, rd_at l i (by omega)]
  induction d with
  | zero =>
    intro i h0 h1 hd
    refine ev_k ?_
    simp only [laws_eqInt64S.l0]
    refine ev_neg (by omega) (ev_some ?_)
    rw [List.drop_of_length_le (by omega), List.drop_of_length_le (by omega)]
    rfl
  | succ d ih =>
    intro i h0 h1 hd
    refine ev_k ?_
    simp only [laws_eqInt64S.l0]
    refine ev_pos (by omega) (ev_pos h0 (ev_pos (by omega) ?_))
    rw [w64 (a := i + 1) (by omega) (by omega), dc l i h0 (by omega), dc m i h0 (by omega)]
    by_cases h : rd l i = rd m i
    · refine ev_pos h ?_
      simp only [List.cons.injEq, h, true_and]
      exact ih (i + 1) (by omega) (by omega) (by omega)
    · refine ev_neg h (ev_some ?_)
      simp [h]
theorem eqS (l m : List Int) (hl : l.length < 9223372036854775807) : Ev (fun k => laws_eqInt64S.f k l m) (decide (l = m)) := by
  unfold laws_eqInt64S.f
  by_cases e : l.length = m.length
  · refine ev_pos (by omega) ?_
    simpa using eqS_l0 l m e hl l.length 0 (by omega) (by omega) (by omega)
  · refine ev_neg (by omega) (ev_some ?_)
    exact (decide_eq_false fun h => e (by rw [h])).symm
theorem eqS_self (l : List Int) (hl : l.length < 9223372036854775807) : Ev (fun k => laws_eqInt64S.f k l l) true := by
  simpa using eqS l l hl

theorem szS (l : List Int) (hl : l.length ≤ maxLen) : laws_szInt64S.f l 1048576 = some (if l.length ≤ 1048576 then 1048576 - (l.length : Int) else -1) := by
  unfold maxLen at hl
  unfold laws_szInt64S.f
  rw [w64 (by omega) (by omega)]
  by_cases h : l.length ≤ 1048576
  · rw [if_neg (by omega), if_pos h]
  · rw [if_pos (by omega), if_neg h]

/-- The numbers from a on. -/
def marks (a : Int) (n : Nat) : List Int := (List.range n).map fun (j : Nat) => a + (j : Int)
theorem marks_length (a : Int) (n : Nat) : (marks a n).length = n := by simp [marks]
theorem marks_at (a : Int) (n j : Nat) (h : j < n) : (marks a n)[j]? = some (a + j) := by
  simp [marks, h]
theorem mark_l0 (n : Nat) (a : Int) (ha : 0 ≤ a) (hn : a + n < 9223372036854775807) (d : Nat) : ∀ (m : List Int) (i : Int), 0 ≤ i → i ≤ n → n - i = d → m.length = n → (∀ j, j < i.toNat → m[j]? = some (a + j)) →
    Ev (fun k => laws_markInt64S.l0 k m (a + i) i) (a + n, marks a n) := by
  induction d with
  | zero =>
    intro m i h0 h1 hd hm hj
    refine ev_k ?_
    simp only [laws_markInt64S.l0]
    refine ev_neg (by omega) (ev_some ?_)
    have : m = marks a n := by
      refine List.ext_getElem? fun j => ?_
      by_cases h : j < n
      · rw [hj j (by omega), marks_at a n j h]
      · rw [List.getElem?_eq_none (by omega), List.getElem?_eq_none (by rw [marks_length]; omega)]
    rw [this, show i = n by omega]
  | succ d ih =>
    intro m i h0 h1 hd hm hj
    refine ev_k ?_
    simp only [laws_markInt64S.l0]
    refine ev_pos (by omega) (ev_pos h0 ?_)
    rw [w64 (a := i + 1) (by omega) (by omega), w64 (a := a + i + 1) (by omega) (by omega), show a + i + 1 = a + (i + 1) by omega]
    refine ih _ (i + 1) (by omega) (by omega) (by omega) (by simpa using hm) fun j h => ?_
    rw [List.getElem?_set]
    split
    · subst_vars
      rw [if_pos (by omega), Int.toNat_of_nonneg h0]
    · exact hj j (by omega)
theorem markS (l : List Int) (a : Int) (ha : 0 ≤ a) (hn : a + l.length < 9223372036854775807) : Ev (fun k => laws_markInt64S.f k l a) (a + l.length, marks a l.length) := by
  unfold laws_markInt64S.f
  have h := mark_l0 l.length a ha hn l.length l 0 (by omega) (by omega) (by omega) rfl (fun j h => by simp at h)
  rwa [Int.add_zero] at h
theorem held_l0 (n : Nat) (a : Int) (ha : 0 ≤ a) (hn : a + n < 9223372036854775807) (d : Nat) : ∀ (i : Int), 0 ≤ i → i ≤ n → n - i = d →
    Ev (fun k => laws_heldInt64S.l0 k (marks a n) (a + i) i) (a + n) := by
  induction d with
  | zero =>
    intro i h0 h1 hd
    refine ev_k ?_
    simp only [laws_heldInt64S.l0]
    exact ev_neg (by rw [marks_length]; omega) (ev_some (by omega))
  | succ d ih =>
    intro i h0 h1 hd
    refine ev_k ?_
    simp only [laws_heldInt64S.l0]
    refine ev_pos (by rw [marks_length]; omega) (ev_pos h0 (ev_pos ?_ ?_))
    · have := marks_at a n i.toNat (by omega)
      simp only [rd, List.getD_eq_getElem?_getD, this, Option.getD_some]
      omega
    · rw [w64 (a := i + 1) (by omega) (by omega), w64 (a := a + i + 1) (by omega) (by omega), show a + i + 1 = a + (i + 1) by omega]
      exact ih (i + 1) (by omega) (by omega) (by omega)
theorem heldS (n : Nat) (a : Int) (ha : 0 ≤ a) (hn : a + n < 9223372036854775807) : Ev (fun k => laws_heldInt64S.f k (marks a n) a) (a + n) := by
  unfold laws_heldInt64S.f
  have h := held_l0 n a ha hn n 0 (by omega) (by omega) (by omega)
  rwa [Int.add_zero] at h
end Go.Proofs.YtkmpkcofddpdgaaDoor.Q
/- The program's WordGirth returns what the reference's returns, and leaves the list as it was. -/
namespace Go.Proofs.YtkmpkcofddpdgaaDoor.Pure
open Go Go.RowKit Go.Proofs.YtkmpkcofddpdgaaDoor.P Go.Proofs.YtkmpkcofddpdgaaDoorW.PrintWords Go.Proofs.YtkmpkcofddpdgaaDoorW.PrintLast Go.Proofs.YtkmpkcofddpdgaaDoorW.PrintMore Go.Proofs.YtkmpkcofddpdgaaDoor.Q
/-- Rows of digits, one for each last letter. -/
def Nw (o c : Int) (w : List Int) (S : Int → Int → Prop) : Prop := (w.length : Int) = c ∧ ∀ j, 0 ≤ j → j < c → Is o (rd w j) (fun x => S x j)
theorem Nw.imp {o c : Int} {w : List Int} {S T : Int → Int → Prop} (h : Nw o c w S) (e : ∀ x j, 0 ≤ x → x < o → 0 ≤ j → j < c → (S x j ↔ T x j)) : Nw o c w T :=
  ⟨h.1, fun j j0 j1 => (h.2 j j0 j1).imp fun x x0 x1 => e x j x0 x1 j0 j1⟩
theorem Nw.put {o c : Int} {w : List Int} {P : Int → Int → Prop} (h : Nw o c w P) (o2 : o ≤ 62) {y j : Int} (y0 : 0 ≤ y) (y1 : y < o) (j0 : 0 ≤ j) (j1 : j < c) : Nw o c (w.set j.toNat (bits .or .i64 (rd w j) (shl .i64 1 y))) (fun a b => P a b ∨ (a = y ∧ b = j)) := by
  refine ⟨by simpa using h.1, fun i i0 i1 => ?_⟩
  rw [rd_set _ j0 (by have := h.1; omega) i0]
  by_cases e : i = j
  · subst e
    rw [if_pos rfl]
    obtain ⟨b1, b2⟩ := one_rw o2 y0 y1
    obtain ⟨c1, c2⟩ := or_rw o2 (h.2 i i0 i1).1 b1
    exact ⟨c1, fun x x0 x1 => by rw [c2 x x0, b2 x x0, (h.2 i i0 i1).2 x x0 x1]; simp⟩
  · rw [if_neg e]
    exact (h.2 i i0 i1).imp fun x x0 x1 => by simp [e]
theorem Nw.zero (o : Int) (c : Nat) : Nw o c (List.replicate c 0) (fun _ _ => False) := by
  refine ⟨by simp, fun j j0 j1 => ?_⟩
  have e : rd (List.replicate c 0) j = 0 := by
    have : j.toNat < c := by omega
    simp [rd, List.getD_eq_getElem?_getD, this]
  rw [e]
  exact ⟨(zero_rw o).1, fun x x0 x1 => ⟨fun z => absurd z ((zero_rw o).2 x), False.elim⟩⟩
theorem tb_zero (x : Int) : (bits .and .i64 x 1 == 1) = tb x 0 := by
  rw [and_one]
  unfold tb
  simp only [Int.toNat_zero, Int.pow_zero, Int.ediv_one]
  rfl
theorem r_index2 (l : List Int) (hl : l.length ≤ 1152921504606846976) (x : Int) (hx : x ∈ l) : ∃ r, Ev (fun k => slices_Index_int64_int64.f k l x) r ∧ (0 ≤ r ∧ r < l.length) ∧ rd l r = x := by
  have loop : ∀ (d : Nat) (i : Int), 0 ≤ i → i ≤ l.length → l.length - i = d → (∃ j : Int, i ≤ j ∧ j < l.length ∧ rd l j = x) → ∃ r, Ev (fun k => slices_Index_int64_int64.l0 k l x l.length i) r ∧ (0 ≤ r ∧ r < l.length) ∧ rd l r = x := by
    intro d
    induction d with
    | zero => intro i i0 i1 hd ⟨j, j0, j1, _⟩; omega
    | succ d ih =>
      intro i i0 i1 hd ⟨j, j0, j1, e⟩
      by_cases h : rd l i = x
      · refine ⟨i, ev_k ?_, ⟨i0, by omega⟩, h⟩
        simp only [slices_Index_int64_int64.l0]
        exact ev_pos (by omega) (ev_pos i0 (ev_pos (by omega) (ev_pos h.symm (Ev.now _))))
      · obtain ⟨r, hr, h1⟩ := ih (i + 1) (by omega) (by omega) (by omega) ⟨j, by have : j ≠ i := fun z => h (z ▸ e); omega, j1, e⟩
        refine ⟨r, ev_k ?_, h1⟩
        simp only [slices_Index_int64_int64.l0]
        rw [w64 (a := i + 1) (by omega) (by omega)]
        exact ev_pos (by omega) (ev_pos i0 (ev_pos (by omega) (ev_neg (fun z => h z.symm) hr)))
  obtain ⟨j, hj, e⟩ := mem_rd' hx
  unfold slices_Index_int64_int64.f
  exact loop l.length 0 (by omega) (by omega) (by omega) ⟨j, hj.1, hj.2, e⟩
/-- The end's two numbers. -/
def told (r : Int) : Int × Int := if r = 0 then (0, 4) else (r, 0)
section
variable {k p : Int} (hg : gok k p) (l : List Int) (hl : l.length ≤ 1048576) (hm : ∀ x ∈ l, 0 ≤ x ∧ x < gord k p) (hc : conn k p l)
/-- For each letter the place of its inverse. -/
def Inv (k p : Int) (l inv : List Int) (m : Nat) : Prop := inv.length = m ∧ ∀ i, 0 ≤ i → i < (m : Int) → (0 ≤ rd inv i ∧ rd inv i < l.length) ∧ rd l (rd inv i) = ginv k p (rd l i)
include hg hm hc
theorem inv_iff {inv : List Int} (hi : Inv k p l inv l.length) {i j : Int} (i0 : 0 ≤ i) (i1 : i < l.length) (j0 : 0 ≤ j) (j1 : j < l.length) : j = rd inv i ↔ gmul k p (rd l i) (rd l j) = 0 := by
  obtain ⟨⟨r0, r1⟩, e⟩ := hi.2 i i0 i1
  have hx := hm _ (l_at l i0 i1)
  have hy := hm _ (l_at l j0 j1)
  obtain ⟨⟨g0, g1⟩, g2, _⟩ := ginv_spec hg hx.1 hx.2
  constructor
  · intro z
    rw [z, e]
    exact g2
  · intro z
    have q : rd l j = rd l (rd inv i) := by rw [e]; exact gmul_uniq hg hx.1 hx.2 hy.1 hy.2 g0 g1 z g2
    have asc := List.pairwise_iff_getElem.1 hc.1
    have a1 : j.toNat < l.length := by omega
    have a2 : (rd inv i).toNat < l.length := by omega
    rw [rd_getElem a1, rd_getElem a2] at q
    rcases Nat.lt_trichotomy j.toNat (rd inv i).toNat with h | h | h
    · have := asc _ _ a1 a2 h
      omega
    · omega
    · have := asc _ _ a2 a1 h
      omega
include hl
theorem i_girth_l1 (inv : List Int) (hi : Inv k p l inv l.length) (d : Nat) : ∀ (L : Nat) (now : List Int), L + d = 17 → 1 ≤ L → Nw (gord k p) l.length now (Wd k p l (L - 1)) → Ev (fun K => impl_WordGirth.l1 K l inv now (L : Int) k p) (told (gw k p l d L)) := by
  obtain ⟨o1, o2⟩ := gord_pos hg
  have c2 : l.length ≤ 62 := conn_len hg l hl hm hc
  induction d with
  | zero =>
    intro L now hL h1 hn
    refine ev_k ?_
    simp only [impl_WordGirth.l1]
    exact ev_neg (by omega) (Ev.now _)
  | succ d ih =>
    intro L now hL h1 hn
    have hnl := hn.1
    have l2 : ∀ (e : Nat) (i : Int) (nx : List Int), 0 ≤ i → i ≤ l.length → l.length - i = e → (∀ j, 0 ≤ j → j < i → ¬ Wd k p l (L - 1) 0 j) → Nw (gord k p) l.length nx (fun y j => ∃ a x, ((0 ≤ a ∧ a < i) ∧ (0 ≤ x ∧ x < gord k p)) ∧ Wd k p l (L - 1) x a ∧ stepW k p l x a y j) → Ev (fun K => impl_WordGirth.l2 K l inv (L : Int) nx now (now.length : Int) i k p) (told (gw k p l (d + 1) L)) := by
      intro e
      induction e with
      | zero =>
        intro i nx i0 i1 he hno hx
        have hne : ¬ ∃ i, Wd k p l (L - 1) 0 i := fun ⟨j, hj⟩ => by
          have := (Wd_range hg l hm _ hj).2
          exact hno j this.1 (by omega) hj
        have := ih (L + 1) nx (by omega) (by omega) (by
          rw [show L + 1 - 1 = L - 1 + 1 by omega]
          refine hx.imp fun y j y0 y1 j0 j1 => ?_
          simp only [Wd, nextW, stepW]
          constructor
          · rintro ⟨a, x, ⟨ha, hx⟩, hw, e1, e2⟩
            exact ⟨⟨j0, j1⟩, x, a, ⟨hx, by omega⟩, hw, e1, e2⟩
          · rintro ⟨_, x, a, ⟨hx, ha⟩, hw, e1, e2⟩
            exact ⟨a, x, ⟨by omega, hx⟩, hw, e1, e2⟩)
        refine ev_k ?_
        simp only [impl_WordGirth.l2, gw]
        rw [if_neg hne, w64 (a := (L : Int) + 1) (by omega) (by omega)]
        exact ev_neg (by omega) this
      | succ e ihe =>
        intro i nx i0 i1 he hno hx
        have hI := hn.2 i i0 (by omega)
        have hp := two_pow_le (n := gord k p) (by omega) o2
        have ol := ones_length (rd now i)
        have om := fun v => ones_mem (n := gord k p) (by omega) o2 hI.1.1 hI.1.2 v
        have go : ¬ Wd k p l (L - 1) 0 i → Ev (fun K => impl_WordGirth.l3 K l inv (L : Int) nx i (rd now i) now (now.length : Int) i l (l.length : Int) 0 k p) (told (gw k p l (d + 1) L)) := by
          intro hni
          have l3 : ∀ (c : Nat) (j : Int) (nx : List Int), 0 ≤ j → j ≤ l.length → l.length - j = c → Nw (gord k p) l.length nx (fun y b => (∃ a x, ((0 ≤ a ∧ a < i) ∧ (0 ≤ x ∧ x < gord k p)) ∧ Wd k p l (L - 1) x a ∧ stepW k p l x a y b) ∨ (b < j ∧ ∃ x, (0 ≤ x ∧ x < gord k p) ∧ Wd k p l (L - 1) x i ∧ stepW k p l x i y b)) → Ev (fun K => impl_WordGirth.l3 K l inv (L : Int) nx i (rd now i) now (now.length : Int) i l (l.length : Int) j k p) (told (gw k p l (d + 1) L)) := by
            intro c
            induction c with
            | zero =>
              intro j nx j0 j1 hcc hx
              have := ihe (i + 1) nx (by omega) (by omega) (by omega) (fun b b0 b1 => by
                by_cases z : b = i
                · rw [z]; exact hni
                · exact hno b b0 (by omega)) (hx.imp fun y b y0 y1 b0 b1 => by
                constructor
                · rintro (⟨a, x, ⟨ha, hx⟩, h⟩ | ⟨_, x, hx, h⟩)
                  · exact ⟨a, x, ⟨by omega, hx⟩, h⟩
                  · exact ⟨i, x, ⟨by omega, hx⟩, h⟩
                · rintro ⟨a, x, ⟨ha, xr⟩, h⟩
                  by_cases z : a = i
                  · rw [z] at h
                    exact .inr ⟨by omega, x, xr, h⟩
                  · exact .inl ⟨a, x, ⟨by omega, xr⟩, h⟩)
              refine ev_k ?_
              simp only [impl_WordGirth.l3]
              rw [w64 (a := i + 1) (by omega) (by omega)]
              exact ev_neg (by omega) this
            | succ c ihc =>
              intro j nx j0 j1 hcc hx
              have hlj := hm _ (l_at l j0 (by omega))
              have hiff := inv_iff hg l hm hc hi i0 (by omega : i < l.length) j0 (by omega : j < l.length)
              refine ev_k ?_
              simp only [impl_WordGirth.l3]
              refine ev_pos (by omega) (ev_pos j0 (ev_pos (by omega) (ev_pos i0 (ev_pos (by have := hi.1; omega) ?_))))
              by_cases hz : j = rd inv i
              · refine ev_pos hz ?_
                rw [w64 (a := j + 1) (by omega) (by omega)]
                refine ihc (j + 1) nx (by omega) (by omega) (by omega) (hx.imp fun y b y0 y1 b0 b1 => or_congr Iff.rfl ⟨fun z => ⟨by omega, z.2⟩, ?_⟩)
                rintro ⟨z, x, hx, hw, st⟩
                refine ⟨?_, x, hx, hw, st⟩
                by_cases q : b = j
                · subst q
                  exact absurd (hiff.1 hz) st.2
                · omega
              · refine ev_neg hz (Ev.bind (i_list hI.1.1 (by have := hI.1.2; omega)) ?_)
                have l4 : ∀ (q : Nat) (a : Int) (nx : List Int), 0 ≤ a → a ≤ (ones (rd now i)).length → (ones (rd now i)).length - a = q → Nw (gord k p) l.length nx (fun y b => ((∃ a x, ((0 ≤ a ∧ a < i) ∧ (0 ≤ x ∧ x < gord k p)) ∧ Wd k p l (L - 1) x a ∧ stepW k p l x a y b) ∨ (b < j ∧ ∃ x, (0 ≤ x ∧ x < gord k p) ∧ Wd k p l (L - 1) x i ∧ stepW k p l x i y b)) ∨ (b = j ∧ ∃ s, (0 ≤ s ∧ s < a) ∧ y = gmul k p (rd (ones (rd now i)) s) (rd l j))) → Ev (fun K => impl_WordGirth.l4 K l inv (L : Int) nx i (rd now i) j (rd l j) now (now.length : Int) i l (l.length : Int) j (ones (rd now i)) ((ones (rd now i)).length : Int) a k p) (told (gw k p l (d + 1) L)) := by
                  intro q
                  induction q with
                  | zero =>
                    intro a nx a0 a1 hq hx
                    have := ihc (j + 1) nx (by omega) (by omega) (by omega) (hx.imp fun y b y0 y1 b0 b1 => by
                      constructor
                      · rintro ((z | ⟨z, h⟩) | ⟨rfl, s, hs, rfl⟩)
                        · exact .inl z
                        · exact .inr ⟨by omega, h⟩
                        · obtain ⟨m0, m1, m2⟩ := (om _).1 (rd_mem' hs.1 (by omega : s < (ones (rd now i)).length))
                          exact .inr ⟨by omega, _, ⟨m0, m1⟩, (hI.2 _ m0 m1).1 m2, rfl, fun z => hz (hiff.2 z)⟩
                      · rintro (z | ⟨z, x, xr, hw, st⟩)
                        · exact .inl (.inl z)
                        · by_cases w : b = j
                          · obtain ⟨s, hs, e⟩ := mem_rd' ((om x).2 ⟨xr.1, xr.2, (hI.2 x xr.1 xr.2).2 hw⟩)
                            exact .inr ⟨w, s, by omega, by rw [e, ← w]; exact st.1⟩
                          · exact .inl (.inr ⟨by omega, x, xr, hw, st⟩))
                    refine ev_k ?_
                    simp only [impl_WordGirth.l4]
                    rw [w64 (a := j + 1) (by omega) (by omega)]
                    exact ev_neg (by omega) this
                  | succ q ihq =>
                    intro a nx a0 a1 hq hx
                    obtain ⟨m0, m1, m2⟩ := (om _).1 (rd_mem' a0 (by omega : a < (ones (rd now i)).length))
                    have hr := gmul_range hg m0 m1 hlj.1 hlj.2
                    have := ihq (a + 1) _ (by omega) (by omega) (by omega) ((hx.put o2 hr.1 hr.2 j0 (by omega)).imp fun y b y0 y1 b0 b1 => by
                      constructor
                      · rintro ((z | ⟨rfl, s, hs, e⟩) | ⟨rfl, rfl⟩)
                        · exact .inl z
                        · exact .inr ⟨rfl, s, by omega, e⟩
                        · exact .inr ⟨rfl, a, by omega, rfl⟩
                      · rintro (z | ⟨rfl, s, hs, e⟩)
                        · exact .inl (.inl z)
                        · by_cases w : s = a
                          · subst w
                            exact .inr ⟨e, rfl⟩
                          · exact .inl (.inr ⟨rfl, s, by omega, e⟩))
                    refine ev_k ?_
                    simp only [impl_WordGirth.l4]
                    rw [w64 (a := a + 1) (by omega) (by omega)]
                    exact ev_pos (by omega) (ev_pos a0 (ev_pos (by omega) (ev_pos j0 (ev_pos (by have := hx.1; omega) (ev_bind0 (i_product hg m0 m1 hlj.1 hlj.2) (ev_pos hr.1 this))))))
                exact l4 (ones (rd now i)).length 0 nx (by omega) (by omega) (by omega) (hx.imp fun y b y0 y1 b0 b1 => ⟨.inl, fun z => z.elim id fun ⟨_, s, hs, _⟩ => by omega⟩)
          exact l3 l.length 0 nx (by omega) (by omega) (by omega) (hx.imp fun y b y0 y1 b0 b1 => ⟨.inl, fun z => z.elim id fun ⟨z, _⟩ => by omega⟩)
        refine ev_k ?_
        simp only [impl_WordGirth.l2]
        rw [tb_zero]
        have hb := hI.2 0 (by omega) (by omega)
        refine ev_pos (by omega) (ev_pos i0 (ev_pos (by omega) ?_))
        by_cases h3 : (L : Int) ≥ 3
        · refine ev_pos h3 (ev_k ?_)
          simp only [impl_WordGirth.j3]
          by_cases z : tb (rd now i) 0 = true
          · refine ev_pos z (ev_some ?_)
            simp only [gw]
            rw [if_pos ⟨i, hb.1 z⟩]
            unfold told
            rw [if_neg (by omega)]
          · exact ev_neg z (go fun y => z (hb.2 y))
        · refine ev_neg h3 (ev_k ?_)
          simp only [impl_WordGirth.j3]
          exact ev_neg (by decide) (go fun y => Wd_low l hc (by omega : L - 1 ≤ 1) y)
    have := l2 l.length 0 _ (by omega) (by omega) (by omega) (fun j j0 j1 => by omega) ((Nw.zero (gord k p) l.length).imp fun y j y0 y1 j0 j1 => ⟨False.elim, fun ⟨a, x, ⟨ha, _⟩, _⟩ => by omega⟩)
    refine ev_k ?_
    simp only [impl_WordGirth.l1]
    exact ev_pos (by omega) (ev_pos (by omega) (ev_pos (by omega) this))
theorem i_girth_l0 : Ev (fun K => impl_WordGirth.l0 K l [] (List.replicate l.length 0) l (l.length : Int) 0 k p) (told (gw k p l 16 1)) := by
  obtain ⟨o1, o2⟩ := gord_pos hg
  have c2 : l.length ≤ 62 := conn_len hg l hl hm hc
  have loop : ∀ (e : Nat) (i : Nat) (inv now : List Int), i ≤ l.length → l.length - i = e → Inv k p l inv i → Nw (gord k p) l.length now (fun x j => j < i ∧ x = rd l j) → Ev (fun K => impl_WordGirth.l0 K l inv now l (l.length : Int) (i : Int) k p) (told (gw k p l 16 1)) := by
    intro e
    induction e with
    | zero =>
      intro i inv now i1 he hi hn
      obtain rfl : i = l.length := by omega
      have := i_girth_l1 hg l hl hm hc inv hi 16 1 now (by omega) (by omega) (hn.imp fun x j x0 x1 j0 j1 => ⟨fun z => ⟨⟨j0, j1⟩, z.2⟩, fun z => ⟨j1, z.2⟩⟩)
      refine ev_k ?_
      simp only [impl_WordGirth.l0]
      exact ev_neg (by omega) this
    | succ e ih =>
      intro i inv now i1 he hi hn
      have hlen := hi.1
      have hr := hm _ (l_at l (by omega : (0 : Int) ≤ i) (by omega : (i : Int) < l.length))
      have hmem := (hc.2 _ (l_at l (by omega : (0 : Int) ≤ i) (by omega : (i : Int) < l.length))).2
      obtain ⟨_, _, _, _, hinv⟩ := ginv_spec hg hr.1 hr.2
      obtain ⟨r, hr1, hr2, hr3⟩ := r_index2 l (by omega) _ hmem
      have := ih (i + 1) (inv ++ [r]) (now.set ((i : Int)).toNat (shl .i64 1 (rd l i))) (by omega) (by omega) ⟨by simp [hlen], fun j j0 j1 => by
        by_cases z : j = i
        · have e : rd (inv ++ [r]) j = r := by
            rw [z]
            simp [rd, List.getD_eq_getElem?_getD, ← hlen]
          rw [e, z]
          exact ⟨hr2, hr3⟩
        · have e : rd (inv ++ [r]) j = rd inv j := by
            have : j.toNat < inv.length := by omega
            simp only [rd, List.getD_eq_getElem?_getD, List.getElem?_append_left this]
          rw [e]
          exact hi.2 j j0 (by omega)⟩ (by
        refine ⟨by simpa using hn.1, fun j j0 j1 => ?_⟩
        rw [rd_set _ (by omega) (by have := hn.1; omega) j0]
        by_cases z : j = i
        · rw [if_pos z]
          obtain ⟨b1, b2⟩ := one_rw o2 hr.1 hr.2
          refine ⟨b1, fun x x0 x1 => ?_⟩
          rw [b2 x x0, z]
          exact ⟨fun q => ⟨by omega, q⟩, fun q => q.2⟩
        · rw [if_neg z]
          exact (hn.2 j j0 j1).imp fun x x0 x1 => ⟨fun q => ⟨by omega, q.2⟩, fun q => ⟨by omega, q.2⟩⟩)
      refine ev_k ?_
      simp only [impl_WordGirth.l0]
      rw [w64 (a := (i : Int) + 1) (by omega) (by omega)]
      exact ev_pos (by omega) (ev_pos (by omega) (ev_pos (by omega) (Ev.bind hinv (Ev.bind hr1 (ev_pos (by omega) (ev_pos hr.1 (ev_pos (by have := hn.1; omega) this)))))))
  exact loop l.length 0 [] _ (by omega) (by omega) ⟨rfl, fun j j0 j1 => by omega⟩ ((Nw.zero (gord k p) l.length).imp fun x j _ _ j0 j1 => ⟨False.elim, fun z => by have := z.1; omega⟩)
end
theorem both (k p : Int) (l : List Int) (hl : l.length ≤ 1048576) : ∃ b c, Ev (fun m => spec_WordGirth.f m k p l) (b, c) ∧ Ev (fun m => impl_WordGirth.f m k p l) (b, c) := by
  unfold spec_WordGirth.f impl_WordGirth.f spec_l05Given.f impl_connectionCode.f
  have hs := s_elems k p l (by omega)
  have hi := i_code k p l (by omega)
  by_cases h : gcode k p l = 0
  · obtain ⟨hg, hm⟩ := gcode_zero h
    by_cases hc : conn k p l
    · have h1 : gw k p l 16 1 = gw k p l 15 2 := by
        conv => lhs; unfold gw
        rw [if_neg]
        rintro ⟨i, hi⟩
        exact Wd_low l hc (by omega : (1 - 1 : Nat) ≤ 1) hi
      have hgs := s_girth hg l hl hm hc
      have hgi := i_girth_l0 hg l hl hm hc
      rw [h1] at hgi
      have c2 : l.length ≤ 62 := conn_len hg l hl hm hc
      refine ⟨(told (gw k p l 15 2)).1, (told (gw k p l 15 2)).2, Ev.bind (a := 0) (Ev.bind hs (ev_pos h (Ev.bind ((s_set hg l hl hm).yes hc) (ev_pos rfl (by rw [h]; exact Ev.now _))))) (ev_pos rfl (Ev.bind hgs ?_)), Ev.bind (a := 0) (Ev.bind hi (ev_pos h (Ev.bind ((i_conn hg l hl hm).yes hc) (ev_pos rfl (Ev.now _))))) (ev_pos rfl (ev_pos (by omega) (ev_pos (by omega) hgi)))⟩
      unfold told
      by_cases z : gw k p l 15 2 = 0
      · simp only [if_pos z]
        exact Ev.now _
      · simp only [if_neg z]
        exact Ev.now _
    · exact ⟨0, 5, Ev.bind (a := 5) (Ev.bind hs (ev_pos h (Ev.bind ((s_set hg l hl hm).no hc) (ev_neg (by decide) (Ev.now _))))) (ev_neg (by decide) (Ev.now _)), Ev.bind (a := 5) (Ev.bind hi (ev_pos h (Ev.bind ((i_conn hg l hl hm).no hc) (ev_neg (by decide) (Ev.now _))))) (ev_neg (by decide) (Ev.now _))⟩
  · exact ⟨0, gcode k p l, Ev.bind (a := gcode k p l) (Ev.bind hs (ev_neg h (Ev.now _))) (ev_neg h (Ev.now _)), Ev.bind (a := gcode k p l) (Ev.bind hi (ev_neg h (Ev.now _))) (ev_neg h (Ev.now _))⟩
theorem FnExactWordGirth : ∀ (a0_0 : Int) (a0_1 : Int) (l1 : List Int), (Lit.int .i64 a0_0).wf = true → (Lit.int .i64 a0_1).wf = true → l1.length ≤ maxLen → (∀ x ∈ l1, (Lit.int .i64 x).wf = true) → ∃ k, laws_FnExactWordGirth.f k a0_0 a0_1 l1 = some true := by
  intro k p l _ _ _ _
  refine Ev.rounds ?_
  unfold laws_FnExactWordGirth.f
  by_cases hs : l.length ≤ 1048576
  · refine ev_neg (by omega) ?_
    obtain ⟨b, c, h1, h2⟩ := both k p l hs
    simp only [laws_toGroup.f, Option.bind_some]
    refine Ev.bind (toS l (by omega)) (Ev.bind h1 (Ev.bind (toS l (by omega)) (Ev.bind h2 (ev_pos rfl ?_))))
    refine ev_k ?_
    simp only [laws_FnExactWordGirth.j0]
    exact ev_neg (by simp) (Ev.bind (toS l (by omega)) (Ev.bind (eqS_self l (by omega)) (ev_pos rfl (Ev.now _))))
  · exact ev_pos (by omega) (Ev.now _)
end Go.Proofs.YtkmpkcofddpdgaaDoor.Pure
