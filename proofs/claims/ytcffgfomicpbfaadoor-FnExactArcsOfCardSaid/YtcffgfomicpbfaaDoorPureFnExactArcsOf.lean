/- The pure law and what it leans on, in one text (wip/bin/bundle). -/
import Derived.Test.YtcffgfomicpbfaaDoorP13
import Derived.Test.YtcffgfomicpbfaaDoorP21
import Derived.Test.YtcffgfomicpbfaaDoorP6
import Derived.Test.YtcffgfomicpbfaaDoorP12
import Derived.Test.YtcffgfomicpbfaaDoorP4
import Derived.Test.YtcffgfomicpbfaaDoorP5
import Derived.Test.YtcffgfomicpbfaaDoorP10
import Derived.Test.YtcffgfomicpbfaaDoorP11
import Derived.Test.YtcffgfomicpbfaaDoorWA
import Derived.Test.YtcffgfomicpbfaaDoorWBMore
import Derived.Laws.BitsLemmas
import Derived.Lib.TrailingZeros
import Derived.Test.YtcffgfomicpbfaaDoorP3
import Derived.Test.YtcffgfomicpbfaaDoorP9
import Derived.Test.YtcffgfomicpbfaaDoorP2
import Derived.Test.YtcffgfomicpbfaaDoorP1
import Derived.Test.YtcffgfomicpbfaaDoorP16
import Derived.Test.YtcffgfomicpbfaaDoorP17
import Derived.Test.YtcffgfomicpbfaaDoorP8
import Derived.Test.YtcffgfomicpbfaaDoorP14
import Derived.Test.YtcffgfomicpbfaaDoorP19
import Derived.Test.YtcffgfomicpbfaaDoorP7
import Derived.Test.YtcffgfomicpbfaaDoorP15
import Derived.Test.YtcffgfomicpbfaaDoorP18
import Derived.Test.YtcffgfomicpbfaaDoorP20
namespace Go.Proofs.YtcffgfomicpbfaaDoor.Q
open Go Go.RowKit Go.Proofs.YtcffgfomicpbfaaDoorW.PrintWords Go.Proofs.YtcffgfomicpbfaaDoorW.PrintMore
theorem ev_k {α : Type} {g : Nat → Option α} {r : α} (h : Ev (fun k => g (k + 1)) r) : Ev g r := Ev.step (fun _ => rfl) h
theorem ev_some {α : Type} {r s : α} (h : r = s) : Ev (fun _ => some r) s := h ▸ Ev.now r
theorem ev_pos {α : Type} {c : Prop} [Decidable c] {f g : Nat → Option α} {r : α} (h : c) (H : Ev f r) : Ev (fun k => if c then f k else g k) r :=
  Ev.congr (fun _ => if_pos h) H
theorem ev_neg {α : Type} {c : Prop} [Decidable c] {f g : Nat → Option α} {r : α} (h : ¬ c) (H : Ev g r) : Ev (fun k => if c then f k else g k) r :=
  Ev.congr (fun _ => if_neg h) H
theorem ev_of {α : Type} {o : Option α} {r : α} (h : o = some r) : Ev (fun _ => o) r := ⟨0, fun _ _ => h⟩
theorem ev_bind0 {α β : Type} {o : Option α} {f : Nat → α → Option β} {a : α} {r : β} (h : o = some a) (H : Ev (fun n => f n a) r) : Ev (fun n => o.bind (f n)) r :=
  Ev.bind (ev_of h) H
theorem w64 {a : Int} (h0 : -9223372036854775808 ≤ a) (h1 : a < 9223372036854775808) : wrap64 a = a := by
  unfold wrap64
  omega
def Says (g : Nat → Option Bool) (P : Prop) : Prop := ∃ b : Bool, Ev g b ∧ (b = true ↔ P)
theorem says_iff {g : Nat → Option Bool} {P R : Prop} (h : P ↔ R) (H : Says g R) : Says g P := by
  obtain ⟨b, hb, e⟩ := H
  exact ⟨b, hb, e.trans h.symm⟩
theorem says_k {g : Nat → Option Bool} {P : Prop} (H : Says (fun k => g (k + 1)) P) : Says g P := by
  obtain ⟨b, hb, e⟩ := H
  exact ⟨b, ev_k hb, e⟩
theorem says_pos {c : Prop} [Decidable c] {f g : Nat → Option Bool} {P : Prop} (h : c) (H : Says f P) : Says (fun k => if c then f k else g k) P := by
  obtain ⟨b, hb, e⟩ := H
  exact ⟨b, ev_pos h hb, e⟩
theorem says_neg {c : Prop} [Decidable c] {f g : Nat → Option Bool} {P : Prop} (h : ¬ c) (H : Says g P) : Says (fun k => if c then f k else g k) P := by
  obtain ⟨b, hb, e⟩ := H
  exact ⟨b, ev_neg h hb, e⟩
theorem says_true {P : Prop} (h : P) : Says (fun _ => some true) P := ⟨true, Ev.now _, by simp [h]⟩
theorem says_false {P : Prop} (h : ¬ P) : Says (fun _ => some false) P := ⟨false, Ev.now _, by simp [h]⟩
theorem Says.yes {g : Nat → Option Bool} {P : Prop} (H : Says g P) (h : P) : Ev g true := by
  obtain ⟨b, hb, e⟩ := H
  rw [e.2 h] at hb
  exact hb
theorem Says.no {g : Nat → Option Bool} {P : Prop} (H : Says g P) (h : ¬ P) : Ev g false := by
  obtain ⟨b, hb, e⟩ := H
  cases b with
  | true => exact absurd (e.1 rfl) h
  | false => exact hb
end Go.Proofs.YtcffgfomicpbfaaDoor.Q
namespace Go.Proofs.YtcffgfomicpbfaaDoor.Q
open Go Go.RowKit Go.Proofs.YtcffgfomicpbfaaDoorW.PrintWords Go.Proofs.YtcffgfomicpbfaaDoorW.PrintLast Go.Proofs.YtcffgfomicpbfaaDoorW.PrintMore
def tb (x i : Int) : Bool := decide (x / 2 ^ i.toNat % 2 = 1)
theorem wu64 {a : Int} (h0 : 0 ≤ a) (h1 : a < 18446744073709551616) : IntKind.u64.wrap a = a := by
  simp [IntKind.wrap, IntKind.bits, IntKind.signed]
  omega
theorem w64' (a : Int) : IntKind.i64.wrap a = wrap64 a := by
  rw [IntKind.wrap_i64]
  unfold wrap64
  rfl
theorem and_one (a : Int) : bits .and .i64 a 1 = a % 2 := by
  have e : (BitVec.ofInt 64 a &&& BitVec.ofInt 64 1).toNat = (a % 2).toNat := by
    rw [BitVec.toNat_and, show (BitVec.ofInt 64 1).toNat = 1 from rfl, Nat.and_one_is_mod, BitVec.toNat_ofInt]
    omega
  show IntKind.i64.wrap (((BitVec.ofInt 64 a &&& BitVec.ofInt 64 1).toNat : Nat) : Int) = a % 2
  rw [e, w64']
  rw [w64] <;> omega
theorem shr_at {x i : Int} (i0 : 0 ≤ i) (i1 : i ≤ 63) : shr .i64 x i = x / 2 ^ i.toNat := by
  unfold shr
  rw [Nat.min_eq_left (by simp [IntKind.bits]; omega)]
theorem bit_at {x i : Int} (i0 : 0 ≤ i) (i1 : i ≤ 63) : bits .and .i64 (shr .i64 x i) 1 = if tb x i then 1 else 0 := by
  rw [and_one, shr_at i0 i1]
  unfold tb
  have := Int.emod_two_eq (x / 2 ^ i.toNat)
  rcases this with h | h <;> simp [h]
theorem bit_is {x i : Int} (i0 : 0 ≤ i) (i1 : i ≤ 63) : (bits .and .i64 (shr .i64 x i) 1 == 1) = tb x i := by
  rw [bit_at i0 i1]
  cases tb x i <;> rfl
theorem two_pow_le {n : Int} (h0 : 0 ≤ n) (h1 : n ≤ 62) : (1 : Int) ≤ 2 ^ n.toNat ∧ (2 : Int) ^ n.toNat ≤ 4611686018427387904 := by
  have e : ((2 : Int) ^ n.toNat) = ((2 ^ n.toNat : Nat) : Int) := by simp
  have a : 2 ^ n.toNat ≤ 2 ^ 62 := Nat.pow_le_pow_right (by decide) (by omega)
  have b : 1 ≤ 2 ^ n.toNat := Nat.one_le_two_pow
  rw [e]
  omega
theorem shl_one {n : Int} (h0 : 0 ≤ n) (h1 : n ≤ 62) : shl .i64 1 n = 2 ^ n.toNat := by
  have := two_pow_le h0 h1
  unfold shl
  rw [Nat.min_eq_left (by simp [IntKind.bits]; omega), Int.one_mul, w64', w64] <;> omega
theorem tb_nat (x i : Nat) : tb (x : Int) (i : Int) = x.testBit i := by
  unfold tb
  rw [Nat.testBit_eq_decide_div_mod_eq]
  have : ((x : Int) / 2 ^ i) % 2 = ((x / 2 ^ i % 2 : Nat) : Int) := by simp
  rw [Int.toNat_natCast, this]
  exact decide_eq_decide.2 (by omega)
theorem tb_toNat {x i : Int} (h0 : 0 ≤ x) (i0 : 0 ≤ i) : tb x i = x.toNat.testBit i.toNat := by
  rw [← tb_nat, Int.toNat_of_nonneg h0, Int.toNat_of_nonneg i0]
theorem tb_high {x i n : Int} (h0 : 0 ≤ x) (h1 : x < 2 ^ n.toNat) (n0 : 0 ≤ n) (hi : n ≤ i) : tb x i = false := by
  rw [tb_toNat h0 (by omega)]
  refine Nat.testBit_lt_two_pow ?_
  have e : ((2 : Int) ^ n.toNat) = ((2 ^ n.toNat : Nat) : Int) := by simp
  rw [e] at h1
  have : x.toNat < 2 ^ n.toNat := by omega
  exact Nat.lt_of_lt_of_le this (Nat.pow_le_pow_right (by decide) (by omega))
theorem and_nat (a b : Nat) (ha : a < 2 ^ 63) (hb : b < 2 ^ 63) : bits .and .i64 a b = ((a &&& b : Nat) : Int) :=
  (bits_nat .i64 63 (by decide) (fun n h0 h1 => by rw [w64', w64] <;> omega) a b ha hb).1
end Go.Proofs.YtcffgfomicpbfaaDoor.Q
namespace Go.Proofs.YtcffgfomicpbfaaDoor.Q
open Go Go.RowKit Go.Proofs.YtcffgfomicpbfaaDoorW.PrintWords
def rows (n : Int) (l : List Int) : Prop := 1 ≤ n ∧ n ≤ 62 ∧ (l.length : Int) = n ∧ ∀ v, 0 ≤ v → v < n → 0 ≤ rd l v ∧ rd l v < 2 ^ n.toNat
end Go.Proofs.YtcffgfomicpbfaaDoor.Q
namespace Go.Proofs.YtcffgfomicpbfaaDoor.Q
open Go Go.RowKit Go.Proofs.YtcffgfomicpbfaaDoorW.PrintWords Go.Proofs.YtcffgfomicpbfaaDoorW.PrintMore
def Mx (n : Int) (l : List Int) (P : Int → Int → Prop) : Prop := (l.length : Int) = n ∧ ∀ v, 0 ≤ v → v < n → (0 ≤ rd l v ∧ rd l v < 2 ^ n.toNat) ∧ ∀ w, 0 ≤ w → w < n → (tb (rd l v) w = true ↔ P v w)
theorem Mx.zero (n : Int) (n0 : 0 ≤ n) : Mx n (List.replicate n.toNat 0) (fun _ _ => False) := by
  refine ⟨by simp; omega, fun v v0 v1 => ?_⟩
  have e : rd (List.replicate n.toNat 0) v = 0 := by
    have : v.toNat < n.toNat := by omega
    simp [rd, List.getD_eq_getElem?_getD, this]
  rw [e]
  have p : (0 : Int) < 2 ^ n.toNat := Int.pow_pos (by decide)
  refine ⟨⟨by omega, p⟩, fun w w0 w1 => ?_⟩
  simp [tb]
theorem Mx.rows {n : Int} {l : List Int} {P : Int → Int → Prop} (h : Mx n l P) (n1 : 1 ≤ n) (n2 : n ≤ 62) : rows n l := ⟨n1, n2, h.1, fun v v0 v1 => (h.2 v v0 v1).1⟩
end Go.Proofs.YtcffgfomicpbfaaDoor.Q
namespace Go.Proofs.YtcffgfomicpbfaaDoor.Q
open Go Go.RowKit Go.Proofs.YtcffgfomicpbfaaDoor.P Go.Proofs.YtcffgfomicpbfaaDoorW.PrintWords Go.Proofs.YtcffgfomicpbfaaDoorW.PrintMore
def onesFrom (x : Nat) : Nat → Nat → List Int
  | 0, _ => []
  | d + 1, m => if x.testBit m then (m : Int) :: onesFrom x d (m + 1) else onesFrom x d (m + 1)
theorem onesFrom_zero (d : Nat) : ∀ m, onesFrom 0 d m = [] := by
  induction d with
  | zero => intro m; rfl
  | succ d ih => intro m; simp [onesFrom, ih]
theorem onesFrom_congr (x y : Nat) (d : Nat) : ∀ m, (∀ i, m ≤ i → x.testBit i = y.testBit i) → onesFrom x d m = onesFrom y d m := by
  induction d with
  | zero => intro m _; rfl
  | succ d ih =>
    intro m h
    simp only [onesFrom]
    rw [h m (Nat.le_refl _), ih (m + 1) fun i hi => h i (by omega)]
theorem ctz_at {x m : Nat} (hx : x < 2 ^ 64) (hb : x.testBit m = true) (hl : ∀ i, i < m → x.testBit i = false) : Lib.ctz 64 x = m ∧ ∃ q, x = 2 ^ m * (2 * q + 1) := by
  have h0 : x ≠ 0 := by rintro rfl; simp at hb
  obtain ⟨q, e, _⟩ := Lib.ctzFrom_spec 64 x (by omega) hx
  have ec : Lib.ctz 64 x = Lib.ctzFrom 64 x := by simp [Lib.ctz, h0]
  have ht : ∀ i, x.testBit i = (decide (i ≥ Lib.ctzFrom 64 x) && (2 * q + 1).testBit (i - Lib.ctzFrom 64 x)) := fun i => by rw [← Nat.testBit_two_pow_mul, ← e]
  generalize Lib.ctzFrom 64 x = c at *
  have hc : c = m := by
    rcases Nat.lt_trichotomy c m with h | h | h
    · have a := hl c h
      rw [ht c] at a
      simp at a
    · exact h
    · rw [ht m] at hb
      have : ¬ m ≥ c := by omega
      simp [this] at hb
  subst hc
  exact ⟨ec, q, e⟩
theorem and_pred {m q : Nat} : (2 ^ m * (2 * q + 1)) &&& (2 ^ m * (2 * q + 1) - 1) = 2 ^ m * (2 * q) := by
  have p := Nat.two_pow_pos m
  have e : 2 ^ m * (2 * q + 1) - 1 = 2 ^ m * (2 * q) + (2 ^ m - 1) := by rw [Nat.mul_add]; omega
  rw [e]
  refine Nat.eq_of_testBit_eq fun i => ?_
  rw [Nat.testBit_and, Nat.testBit_two_pow_mul, Nat.testBit_two_pow_mul_add _ (by omega), Nat.testBit_two_pow_mul]
  by_cases h : i < m
  · have : ¬ i ≥ m := by omega
    simp [this]
  · have : i ≥ m := by omega
    simp only [this, decide_true, Bool.true_and, h, if_false]
    cases i - m with
    | zero => simp
    | succ j => simp [Nat.testBit_succ]; rw [show (2 * q + 1) / 2 = q by omega]; simp
theorem pred_bit {m q i : Nat} (h : m < i) : (2 ^ m * (2 * q)).testBit i = (2 ^ m * (2 * q + 1)).testBit i := by
  rw [Nat.testBit_two_pow_mul, Nat.testBit_two_pow_mul]
  obtain ⟨j, hj⟩ : ∃ j, i - m = j + 1 := ⟨i - m - 1, by omega⟩
  rw [hj, Nat.testBit_succ, Nat.testBit_succ, show (2 * q + 1) / 2 = 2 * q / 2 by omega]
theorem pred_low {m q i : Nat} (h : i < m + 1) : (2 ^ m * (2 * q)).testBit i = false := by
  rw [Nat.testBit_two_pow_mul]
  by_cases e : i = m
  · subst e
    simp
  · have : ¬ i ≥ m := by omega
    simp [this]
theorem i_list_l0 (d : Nat) : ∀ (m x : Nat) (acc : List Int), d + m = 62 → x < 2 ^ 62 → (∀ i, i < m → x.testBit i = false) → acc.length ≤ m → Ev (fun k => impl_list.l0 k (x : Int) acc) (acc ++ onesFrom x d m) := by
  have done : ∀ d m (acc : List Int), Ev (fun k => impl_list.l0 k ((0 : Nat) : Int) acc) (acc ++ onesFrom 0 d m) := by
    intro d m acc
    rw [onesFrom_zero, List.append_nil]
    refine ev_k ?_
    simp only [impl_list.l0]
    exact ev_pos rfl (Ev.now _)
  induction d with
  | zero =>
    intro m x acc hd hx hl ha
    have : x = 0 := by
      refine Nat.eq_of_testBit_eq fun i => ?_
      rw [Nat.zero_testBit]
      by_cases hi : i < m
      · exact hl i hi
      · exact Nat.testBit_lt_two_pow (Nat.lt_of_lt_of_le hx (Nat.pow_le_pow_right (by decide) (by omega)))
    subst this
    exact done 0 m acc
  | succ d ih =>
    intro m x acc hd hx hl ha
    by_cases hb : x.testBit m = true
    · obtain ⟨hc, q, e⟩ := ctz_at (Nat.lt_trans hx (by decide)) hb hl
      have x0 : x ≠ 0 := by rintro rfl; simp at hb
      have hq : 2 ^ m * (2 * q) < 2 ^ 62 := Nat.lt_of_le_of_lt (Nat.mul_le_mul_left _ (by omega)) (e ▸ hx)
      have := ih (m + 1) (2 ^ m * (2 * q)) (acc ++ [(m : Int)]) (by omega) hq (fun i hi => pred_low hi) (by simp; omega)
      have e2 : acc ++ onesFrom x (d + 1) m = acc ++ [(m : Int)] ++ onesFrom (2 ^ m * (2 * q)) d (m + 1) := by
        simp only [onesFrom, hb, if_true]
        rw [onesFrom_congr x (2 ^ m * (2 * q)) d (m + 1) fun i hi => by rw [pred_bit (by omega), ← e]]
        simp
      rw [e2]
      refine ev_k ?_
      simp only [impl_list.l0]
      refine ev_neg (by omega) ?_
      rw [wu64 (a := (x : Int)) (by omega) (by omega), w64 (a := (x : Int) - 1) (by omega) (by omega), show (x : Int) - 1 = ((x - 1 : Nat) : Int) by omega, and_nat x (x - 1) (by omega) (by omega)]
      have ex : x &&& (x - 1) = 2 ^ m * (2 * q) := by rw [e]; exact and_pred
      rw [ex]
      refine ev_bind0 (a := (m : Int)) ?_ (ev_pos (by omega) this)
      unfold bits_TrailingZeros64.f
      rw [if_pos (by omega), if_pos (by omega), Int.toNat_natCast, hc]
    · have := ih (m + 1) x acc (by omega) hx (fun i hi => if h : i = m then by rw [h]; simpa using hb else hl i (by omega)) (by omega)
      have e : onesFrom x (d + 1) m = onesFrom x d (m + 1) := by simp [onesFrom, hb]
      rwa [e]
def ones (x : Int) : List Int := onesFrom x.toNat 62 0
theorem i_list {x : Int} (h0 : 0 ≤ x) (h1 : x < 4611686018427387904) : Ev (fun k => impl_list.f k x) (ones x) := by
  obtain ⟨y, rfl⟩ := Int.eq_ofNat_of_zero_le h0
  unfold impl_list.f ones
  rw [Int.toNat_natCast]
  have := i_list_l0 62 0 y [] (by omega) (by omega) (fun i hi => by omega) (by simp)
  simpa using this
theorem onesFrom_mem (x : Nat) (d : Nat) : ∀ m (v : Int), v ∈ onesFrom x d m ↔ ∃ i : Nat, v = (i : Int) ∧ m ≤ i ∧ i < m + d ∧ x.testBit i = true := by
  induction d with
  | zero => intro m v; simp [onesFrom]; intro i _ _; omega
  | succ d ih =>
    intro m v
    simp only [onesFrom]
    have s : (∃ i : Nat, v = (i : Int) ∧ m ≤ i ∧ i < m + (d + 1) ∧ x.testBit i = true) ↔ (v = (m : Int) ∧ x.testBit m = true) ∨ ∃ i : Nat, v = (i : Int) ∧ m + 1 ≤ i ∧ i < m + 1 + d ∧ x.testBit i = true := by
      constructor
      · rintro ⟨i, rfl, h1, h2, h3⟩
        by_cases e : i = m
        · subst e
          exact .inl ⟨rfl, h3⟩
        · exact .inr ⟨i, rfl, by omega, by omega, h3⟩
      · rintro (⟨rfl, h⟩ | ⟨i, rfl, h1, h2, h3⟩)
        · exact ⟨m, rfl, by omega, by omega, h⟩
        · exact ⟨i, rfl, by omega, by omega, h3⟩
    rw [s, ← ih]
    by_cases h : x.testBit m = true
    · rw [if_pos h]
      simp [h]
    · rw [if_neg h]
      simp [h]
theorem ones_mem {n x : Int} (n0 : 0 ≤ n) (n2 : n ≤ 62) (x0 : 0 ≤ x) (x1 : x < 2 ^ n.toNat) (v : Int) : v ∈ ones x ↔ 0 ≤ v ∧ v < n ∧ tb x v = true := by
  unfold ones
  rw [onesFrom_mem]
  constructor
  · rintro ⟨i, rfl, h1, h2, h3⟩
    have ht : tb x i = true := by rw [tb_toNat x0 (by omega)]; simpa using h3
    refine ⟨by omega, ?_, ht⟩
    by_cases h : (i : Int) < n
    · exact h
    · rw [tb_high x0 x1 n0 (by omega)] at ht
      cases ht
  · rintro ⟨h1, h2, h3⟩
    refine ⟨v.toNat, by omega, by omega, by omega, ?_⟩
    rwa [tb_toNat x0 h1] at h3
theorem onesFrom_length (x : Nat) (d : Nat) : ∀ m, (onesFrom x d m).length ≤ d := by
  induction d with
  | zero => intro m; simp [onesFrom]
  | succ d ih =>
    intro m
    simp only [onesFrom]
    have := ih (m + 1)
    split <;> simp <;> omega
theorem ones_length (x : Int) : (ones x).length ≤ 62 := onesFrom_length _ 62 0
theorem onesFrom_high (x : Nat) (d e : Nat) : ∀ m, x < 2 ^ (m + d) → onesFrom x (d + e) m = onesFrom x d m := by
  induction d with
  | zero =>
    intro m h
    rw [Nat.zero_add]
    induction e generalizing m with
    | zero => rfl
    | succ e ihe =>
      have hb : x.testBit m = false := Nat.testBit_lt_two_pow h
      simp only [onesFrom, hb]
      rw [ihe (m + 1) (Nat.lt_of_lt_of_le h (Nat.pow_le_pow_right (by decide) (by omega)))]
      simp [onesFrom]
  | succ d ih =>
    intro m h
    rw [show d + 1 + e = (d + e) + 1 by omega]
    simp only [onesFrom]
    rw [ih (m + 1) (by rwa [show m + 1 + d = m + (d + 1) by omega])]
theorem ones_to {n x : Int} (n0 : 0 ≤ n) (n2 : n ≤ 62) (x0 : 0 ≤ x) (x1 : x < 2 ^ n.toNat) : ones x = onesFrom x.toNat n.toNat 0 := by
  unfold ones
  have e : ((2 : Int) ^ n.toNat) = ((2 ^ n.toNat : Nat) : Int) := by simp
  rw [e] at x1
  have := onesFrom_high x.toNat n.toNat (62 - n.toNat) 0 (by rw [Nat.zero_add]; omega)
  rwa [show n.toNat + (62 - n.toNat) = 62 by omega] at this
end Go.Proofs.YtcffgfomicpbfaaDoor.Q
namespace Go.Proofs.YtcffgfomicpbfaaDoor.Q
open Go Go.RowKit Go.Proofs.YtcffgfomicpbfaaDoor.P
theorem s_in (a b c : Int) : spec_l01In.f a b c = some (decide (b ≤ a ∧ a ≤ c)) := by
  unfold spec_l01In.f
  split
  · exact congrArg some (decide_eq_decide.2 (by omega))
  · exact congrArg some (decide_eq_false (by omega)).symm
end Go.Proofs.YtcffgfomicpbfaaDoor.Q
namespace Go.Proofs.YtcffgfomicpbfaaDoor.Q
open Go Go.RowKit Go.Proofs.YtcffgfomicpbfaaDoor.P Go.Proofs.YtcffgfomicpbfaaDoorW.PrintWords Go.Proofs.YtcffgfomicpbfaaDoorW.PrintMore
theorem rows_all {n : Int} {l : List Int} (hn : (l.length : Int) = n) (P : Int → Prop) : (∀ x ∈ l, P x) ↔ ∀ v, 0 ≤ v → v < n → P (rd l v) := by
  constructor
  · intro h v v0 v1
    have hv : v.toNat < l.length := by omega
    have : rd l v = l[v.toNat] := by simp [rd, List.getD_eq_getElem?_getD, List.getElem?_eq_getElem hv]
    rw [this]
    exact h _ (List.getElem_mem _)
  · intro h x hx
    obtain ⟨i, hi, rfl⟩ := List.getElem_of_mem hx
    have := h i (by omega) (by omega)
    have e : rd l (i : Int) = l[i] := by simp [rd, List.getD_eq_getElem?_getD, List.getElem?_eq_getElem hi]
    rwa [e] at this
theorem s_di (n : Int) (l : List Int) : Says (fun k => spec_l08Is.f k n l) (rows n l) := by
  have bad : ¬ rows n l → Says (fun k => spec_l08Is.j0 k true n l) (rows n l) := fun h => by
    refine says_k ?_
    simp only [spec_l08Is.j0]
    exact says_pos trivial (says_false h)
  unfold spec_l08Is.f
  rw [s_in]
  simp only [Option.bind_some]
  by_cases h1 : 1 ≤ n ∧ n ≤ 62
  · refine says_pos (decide_eq_true h1) ?_
    by_cases h2 : (l.length : Int) = n
    · refine says_k ?_
      simp only [spec_l08Is.j0]
      refine says_neg (by simp [h2]) ?_
      have hp := two_pow_le (n := n) (by omega) h1.2
      have loop : ∀ (d : Nat) (v : Int), 0 ≤ v → v ≤ n → n - v = d → Says (fun k => spec_l08Is.l0 k v n l) (∀ a, v ≤ a → a < n → 0 ≤ rd l a ∧ rd l a < 2 ^ n.toNat) := by
        intro d
        induction d with
        | zero =>
          intro v v0 v1 hd
          refine says_k ?_
          simp only [spec_l08Is.l0]
          exact says_neg (by omega) (says_true fun a _ _ => by omega)
        | succ d ih =>
          intro v v0 v1 hd
          refine says_k ?_
          simp only [spec_l08Is.l0]
          rw [wu64 (a := n) (by omega) (by omega), shl_one (by omega) h1.2, w64 (a := 2 ^ n.toNat - 1) (by omega) (by omega), s_in]
          simp only [Option.bind_some]
          refine says_pos (by omega) (says_pos v0 (says_pos (by omega) ?_))
          by_cases h : 0 ≤ rd l v ∧ rd l v ≤ 2 ^ n.toNat - 1
          · refine says_pos (decide_eq_true h) ?_
            rw [w64 (a := v + 1) (by omega) (by omega)]
            exact says_iff ⟨fun z a a0 a1 => z a (by omega) a1, fun z a a0 a1 => if ha : a = v then by subst ha; omega else z a (by omega) a1⟩ (ih (v + 1) (by omega) (by omega) (by omega))
          · exact says_neg (by simpa using h) (says_false fun z => h (by have := z v (by omega) (by omega); omega))
      exact says_iff ⟨fun z => z.2.2.2, fun z => ⟨h1.1, h1.2, h2, z⟩⟩ (loop n.toNat 0 (by omega) (by omega) (by omega))
    · rw [show ((l.length : Int) != n) = true by simpa using h2]
      exact bad fun z => h2 z.2.2.1
  · exact says_neg (by simpa using h1) (bad fun z => h1 ⟨z.1, z.2.1⟩)
theorem i_di (n : Int) (l : List Int) : ∃ b, impl_IsDigraph.f n l = some b ∧ (b = true ↔ rows n l) := by
  unfold impl_IsDigraph.f
  by_cases h1 : n < 1
  · exact ⟨false, if_pos h1, by simp; intro z; have := z.1; omega⟩
  · rw [if_neg h1]
    by_cases h2 : n > 62
    · exact ⟨false, if_pos h2, by simp; intro z; have := z.2.1; omega⟩
    · rw [if_neg h2]
      by_cases h3 : (l.length : Int) = n
      · rw [if_pos h3]
        have hp := two_pow_le (n := n) (by omega) (by omega)
        refine ⟨_, rfl, ?_⟩
        rw [w64 (a := 2 ^ n.toNat) (by omega) (by omega)]
        have : (!(l.any fun row => decide (row < 0) || decide (2 ^ n.toNat ≤ row))) = true ↔ ∀ x ∈ l, 0 ≤ x ∧ x < 2 ^ n.toNat := by
          simp only [Bool.not_eq_true', List.any_eq_false, Bool.or_eq_true, decide_eq_true_eq, not_or, Int.not_lt, Int.not_le]
        rw [this, rows_all h3]
        exact ⟨fun z => ⟨by omega, by omega, h3, z⟩, fun z => z.2.2.2⟩
      · exact ⟨false, if_neg h3, by simp; intro z; exact h3 z.2.2.1⟩
theorem i_di_yes {n : Int} {l : List Int} (h : rows n l) : impl_IsDigraph.f n l = some true := by
  obtain ⟨b, hb, e⟩ := i_di n l
  rw [hb, e.2 h]
theorem i_di_no {n : Int} {l : List Int} (h : ¬ rows n l) : impl_IsDigraph.f n l = some false := by
  obtain ⟨b, hb, e⟩ := i_di n l
  cases b with
  | true => exact absurd (e.1 rfl) h
  | false => exact hb
theorem d_has (n : Int) (l : List Int) (v w : Int) (v0 : 0 ≤ v) (v1 : v < l.length) (w0 : 0 ≤ w) (w1 : w ≤ 63) : spec_l08Has.f n l v w = some (tb (rd l v) w) := by
  unfold spec_l08Has.f
  rw [if_pos v0, if_pos v1, wu64 w0 (by omega), if_pos w0, bit_is w0 w1]
end Go.Proofs.YtcffgfomicpbfaaDoor.Q
namespace Go.Proofs.YtcffgfomicpbfaaDoor.Q
open Go Go.RowKit Go.Proofs.YtcffgfomicpbfaaDoor.P Go.Proofs.YtcffgfomicpbfaaDoorW.PrintWords Go.Proofs.YtcffgfomicpbfaaDoorW.PrintMore
def arcRow (v : Int) (ws : List Int) : List (List Int) := ws.map fun w => [v, w]
def arcsTo (l : List Int) : Nat → List (List Int)
  | 0 => []
  | m + 1 => arcsTo l m ++ arcRow (m : Int) (ones (rd l (m : Int)))
theorem arcRow_app (v : Int) (a b : List Int) : arcRow v (a ++ b) = arcRow v a ++ arcRow v b := by simp [arcRow]
theorem arcRow_length (v : Int) (a : List Int) : (arcRow v a).length = a.length := by simp [arcRow]
theorem arcsTo_length (l : List Int) (m : Nat) : (arcsTo l m).length ≤ m * 62 := by
  induction m with
  | zero => simp [arcsTo]
  | succ m ih =>
    have b := ones_length (rd l (m : Int))
    simp only [arcsTo, List.length_append, arcRow_length]
    omega
theorem arcsTo_mem {n : Int} {l : List Int} (h : rows n l) (m : Nat) (hm : (m : Int) ≤ n) (e : List Int) : e ∈ arcsTo l m ↔ ∃ v w : Int, (0 ≤ v ∧ v < m) ∧ (0 ≤ w ∧ w < n) ∧ tb (rd l v) w = true ∧ e = [v, w] := by
  have n2 := h.2.1
  induction m with
  | zero =>
    simp only [arcsTo, List.not_mem_nil, false_iff]
    rintro ⟨v, w, hv, _⟩
    omega
  | succ m ih =>
    have hr := h.2.2.2 (m : Int) (by omega) (by omega)
    simp only [arcsTo, List.mem_append]
    refine Iff.trans (or_congr (ih (by omega)) Iff.rfl) ?_
    constructor
    · rintro (⟨v, w, hv, hw⟩ | he)
      · exact ⟨v, w, by omega, hw⟩
      · obtain ⟨w, hw, rfl⟩ := List.mem_map.1 he
        obtain ⟨w0, w1, wt⟩ := (ones_mem (by omega) n2 hr.1 hr.2 w).1 hw
        exact ⟨m, w, by omega, ⟨w0, w1⟩, wt, rfl⟩
    · rintro ⟨v, w, hv, hw, ht, rfl⟩
      by_cases z : v = m
      · subst z
        exact .inr (List.mem_map.2 ⟨w, (ones_mem (by omega) n2 hr.1 hr.2 w).2 ⟨hw.1, hw.2, ht⟩, rfl⟩)
      · exact .inl ⟨v, w, by omega, hw, ht, rfl⟩
theorem i_arcs {n : Int} {l : List Int} (h : rows n l) : Ev (fun k => impl_Digraph_arcs.f k n l) (arcsTo l n.toNat) := by
  have n1 := h.1
  have n2 := h.2.1
  have hl := h.2.2.1
  have loop : ∀ (d v : Nat), (v : Int) ≤ n → n - v = d → Ev (fun k => impl_Digraph_arcs.l0 k (arcsTo l v) l (l.length : Int) v) (arcsTo l n.toNat) := by
    intro d
    induction d with
    | zero =>
      intro v v1 hd
      refine ev_k ?_
      simp only [impl_Digraph_arcs.l0]
      refine ev_neg (by omega) (ev_some ?_)
      rw [show v = n.toNat by omega]
    | succ d ih =>
      intro v v1 hd
      have hr := h.2.2.2 (v : Int) (by omega) (by omega)
      have hp := two_pow_le (n := n) (by omega) n2
      have ol := ones_length (rd l (v : Int))
      have el := arcsTo_length l v
      have inner : ∀ (ws pre : List Int), pre ++ ws = ones (rd l (v : Int)) → Ev (fun k => impl_Digraph_arcs.l1 k (arcsTo l v ++ arcRow v pre) v l (l.length : Int) v (ones (rd l (v : Int))) ((ones (rd l (v : Int))).length : Int) (pre.length : Int)) (arcsTo l n.toNat) := by
        intro ws
        induction ws with
        | nil =>
          intro pre hpre
          rw [List.append_nil] at hpre
          have := ih (v + 1) (by omega) (by omega)
          refine ev_k ?_
          simp only [impl_Digraph_arcs.l1]
          rw [w64 (a := (v : Int) + 1) (by omega) (by omega), hpre]
          exact ev_neg (by omega) this
        | cons w ws ihw =>
          intro pre hpre
          have hlt : pre.length < (ones (rd l (v : Int))).length := by rw [← hpre]; simp
          have hw : rd (ones (rd l (v : Int))) (pre.length : Int) = w := by
            rw [← hpre]
            simp [rd, List.getD_eq_getElem?_getD]
          have hrl := arcRow_length (v : Int) pre
          have := ihw (pre ++ [w]) (by rw [← hpre]; simp)
          rw [arcRow_app, List.length_append, List.length_singleton, Int.natCast_add, show arcRow (v : Int) [w] = [[(v : Int), w]] from rfl, ← List.append_assoc] at this
          refine ev_k ?_
          simp only [impl_Digraph_arcs.l1, hw]
          rw [w64 (a := (pre.length : Int) + 1) (by omega) (by omega)]
          exact ev_pos (by omega) (ev_pos (by omega) (ev_pos (by omega) (ev_pos (by simp only [List.length_append]; omega) this)))
      have := inner (ones (rd l (v : Int))) [] rfl
      rw [show arcRow (v : Int) [] = [] from rfl, List.append_nil] at this
      refine ev_k ?_
      simp only [impl_Digraph_arcs.l0]
      exact ev_pos (by omega) (ev_pos (by omega) (ev_pos (by omega) (Ev.bind (i_list hr.1 (by omega)) this)))
  unfold impl_Digraph_arcs.f
  exact loop n.toNat 0 (by omega) (by omega)
theorem s_arcs {n : Int} {l : List Int} (h : rows n l) : Ev (fun k => spec_l08Arcs.f k n l) (arcsTo l n.toNat) := by
  have n1 := h.1
  have n2 := h.2.1
  have hl := h.2.2.1
  have loop : ∀ (d v : Nat), (v : Int) ≤ n → n - v = d → Ev (fun k => spec_l08Arcs.l0 k (arcsTo l v) v n l) (arcsTo l n.toNat) := by
    intro d
    induction d with
    | zero =>
      intro v v1 hd
      refine ev_k ?_
      simp only [spec_l08Arcs.l0]
      refine ev_neg (by omega) (ev_some ?_)
      rw [show v = n.toNat by omega]
    | succ d ih =>
      intro v v1 hd
      have hr := h.2.2.2 (v : Int) (by omega) (by omega)
      have hp := two_pow_le (n := n) (by omega) n2
      have el := arcsTo_length l v
      have hto := ones_to (n := n) (by omega) n2 hr.1 hr.2
      have inner : ∀ (e w : Nat) (acc : List (List Int)), (w : Int) ≤ n → n.toNat - w = e → acc.length + e ≤ 4000 → acc ++ arcRow v (onesFrom (rd l (v : Int)).toNat e w) = arcsTo l (v + 1) → Ev (fun k => spec_l08Arcs.l1 k acc v w n l) (arcsTo l n.toNat) := by
        intro e
        induction e with
        | zero =>
          intro w acc w1 he hal hacc
          have := ih (v + 1) (by omega) (by omega)
          rw [← hacc] at this
          simp only [onesFrom] at this
          rw [show arcRow (v : Int) [] = [] from rfl, List.append_nil] at this
          refine ev_k ?_
          simp only [spec_l08Arcs.l1]
          rw [w64 (a := (v : Int) + 1) (by omega) (by omega)]
          exact ev_neg (by omega) this
        | succ e ihe =>
          intro w acc w1 he hal hacc
          have hh := d_has n l (v : Int) (w : Int) (by omega) (by omega) (by omega) (by omega)
          have htb : tb (rd l (v : Int)) (w : Int) = (rd l (v : Int)).toNat.testBit w := by rw [tb_toNat hr.1 (by omega), Int.toNat_natCast]
          refine ev_k ?_
          simp only [spec_l08Arcs.l1, hh, Option.bind_some]
          rw [w64 (a := (w : Int) + 1) (by omega) (by omega)]
          refine ev_pos (by omega) ?_
          by_cases z : tb (rd l (v : Int)) (w : Int) = true
          · have := ihe (w + 1) (acc ++ [[(v : Int), (w : Int)]]) (by omega) (by omega) (by simp; omega) (by
              rw [← hacc]
              simp only [onesFrom]
              rw [if_pos (by rw [← htb]; exact z)]
              rw [show (w : Int) :: onesFrom (rd l (v : Int)).toNat e (w + 1) = [(w : Int)] ++ onesFrom (rd l (v : Int)).toNat e (w + 1) from rfl, arcRow_app, show arcRow (v : Int) [(w : Int)] = [[(v : Int), (w : Int)]] from rfl, List.append_assoc])
            exact ev_pos z (ev_pos (by omega) this)
          · have := ihe (w + 1) acc (by omega) (by omega) (by omega) (by
              rw [← hacc]
              simp only [onesFrom]
              rw [if_neg (by rw [← htb]; exact z)])
            exact ev_neg z this
      have := inner n.toNat 0 (arcsTo l v) (by omega) (by omega) (by omega) (by simp only [arcsTo]; rw [hto])
      refine ev_k ?_
      simp only [spec_l08Arcs.l0]
      exact ev_pos (by omega) this
  unfold spec_l08Arcs.f
  exact loop n.toNat 0 (by omega) (by omega)
end Go.Proofs.YtcffgfomicpbfaaDoor.Q
namespace Go.Proofs.YtcffgfomicpbfaaDoor.Q
open Go Go.RowKit Go.Proofs.YtcffgfomicpbfaaDoor.P Go.Proofs.YtcffgfomicpbfaaDoorW.PrintWords Go.Proofs.YtcffgfomicpbfaaDoorW.PrintMore
theorem rd_at (l : List Int) (i : Int) (h1 : i.toNat < l.length) : rd l i = l[i.toNat] := by
  simp [rd, List.getD_eq_getElem?_getD, List.getElem?_eq_getElem h1]
theorem toS_l0 (l : List Int) (hl : l.length < 9223372036854775807) (d : Nat) : ∀ (m : List Int) (i : Int), 0 ≤ i → i ≤ l.length → l.length - i = d → m.length = l.length → (∀ j, j < i.toNat → m[j]? = l[j]?) →
    Ev (fun k => laws_toInt64S.l0 k l m i) l := by
  induction d with
  | zero =>
    intro m i h0 h1 hd hm hj
    refine ev_k ?_
    simp only [laws_toInt64S.l0]
    refine ev_neg (by omega) (ev_some (List.ext_getElem? fun j => ?_))
    by_cases h : j < i.toNat
    · exact hj j h
    · rw [List.getElem?_eq_none (by omega), List.getElem?_eq_none (by omega)]
  | succ d ih =>
    intro m i h0 h1 hd hm hj
    refine ev_k ?_
    simp only [laws_toInt64S.l0]
    refine ev_pos (by omega) (ev_pos h0 (ev_pos (by omega) ?_))
    rw [w64 (a := i + 1) (by omega) (by omega)]
    refine ih _ (i + 1) (by omega) (by omega) (by omega) (by simpa using hm) fun j h => ?_
    rw [List.getElem?_set]
    split
    · subst_vars
      rw [if_pos (by omega), rd_at l i (by omega), List.getElem?_eq_getElem]
    · exact hj j (by omega)
theorem toS (l : List Int) (hl : l.length ≤ 35184372088832) : Ev (fun k => laws_toInt64S.f k l) l := by
  unfold laws_toInt64S.f
  refine ev_pos (by omega) (ev_pos (by omega) ?_)
  exact toS_l0 l (by omega) l.length _ 0 (by omega) (by omega) (by omega) (by simp) (fun j h => by simp at h)
theorem eqS_l0 (l m : List Int) (e : l.length = m.length) (hl : l.length < 9223372036854775807) (d : Nat) : ∀ (i : Int), 0 ≤ i → i ≤ l.length → l.length - i = d →
    Ev (fun k => laws_eqInt64S.l0 k l m i) (decide (l.drop i.toNat = m.drop i.toNat)) := by
  have dc : ∀ (l : List Int) (i : Int), 0 ≤ i → i < l.length → l.drop i.toNat = rd l i :: l.drop (i + 1).toNat := fun l i h0 h1 => by
    rw [List.drop_eq_getElem_cons (by omega : i.toNat < l.length), show (i + 1).toNat = i.toNat + 1 by omega, rd_at l i (by omega)]
  induction d with
  | zero =>
    intro i h0 h1 hd
    refine ev_k ?_
    simp only [laws_eqInt64S.l0]
    refine ev_neg (by omega) (ev_some ?_)
    rw [List.drop_of_length_le (by omega), List.drop_of_length_le (by omega)]
    rfl
  | succ d ih =>
    intro i h0 h1 hd
    refine ev_k ?_
    simp only [laws_eqInt64S.l0]
    refine ev_pos (by omega) (ev_pos h0 (ev_pos (by omega) ?_))
    rw [w64 (a := i + 1) (by omega) (by omega), dc l i h0 (by omega), dc m i h0 (by omega)]
    by_cases h : rd l i = rd m i
    · refine ev_pos h ?_
      simp only [List.cons.injEq, h, true_and]
      exact ih (i + 1) (by omega) (by omega) (by omega)
    · refine ev_neg h (ev_some ?_)
      simp [h]
theorem eqS (l m : List Int) (hl : l.length < 9223372036854775807) : Ev (fun k => laws_eqInt64S.f k l m) (decide (l = m)) := by
  unfold laws_eqInt64S.f
  by_cases e : l.length = m.length
  · refine ev_pos (by omega) ?_
    simpa using eqS_l0 l m e hl l.length 0 (by omega) (by omega) (by omega)
  · refine ev_neg (by omega) (ev_some ?_)
    exact (decide_eq_false fun h => e (by rw [h])).symm
theorem eqS_self (l : List Int) (hl : l.length < 9223372036854775807) : Ev (fun k => laws_eqInt64S.f k l l) true := by
  simpa using eqS l l hl
theorem szS (l : List Int) (hl : l.length ≤ maxLen) : laws_szInt64S.f l 1048576 = some (if l.length ≤ 1048576 then 1048576 - (l.length : Int) else -1) := by
  unfold maxLen at hl
  unfold laws_szInt64S.f
  rw [w64 (by omega) (by omega)]
  by_cases h : l.length ≤ 1048576
  · rw [if_neg (by omega), if_pos h]
  · rw [if_pos (by omega), if_neg h]
def marks (a : Int) (n : Nat) : List Int := (List.range n).map fun (j : Nat) => a + (j : Int)
theorem marks_length (a : Int) (n : Nat) : (marks a n).length = n := by simp [marks]
theorem marks_at (a : Int) (n j : Nat) (h : j < n) : (marks a n)[j]? = some (a + j) := by
  simp [marks, h]
theorem mark_l0 (n : Nat) (a : Int) (ha : 0 ≤ a) (hn : a + n < 9223372036854775807) (d : Nat) : ∀ (m : List Int) (i : Int), 0 ≤ i → i ≤ n → n - i = d → m.length = n → (∀ j, j < i.toNat → m[j]? = some (a + j)) →
    Ev (fun k => laws_markInt64S.l0 k m (a + i) i) (a + n, marks a n) := by
  induction d with
  | zero =>
    intro m i h0 h1 hd hm hj
    refine ev_k ?_
    simp only [laws_markInt64S.l0]
    refine ev_neg (by omega) (ev_some ?_)
    have : m = marks a n := by
      refine List.ext_getElem? fun j => ?_
      by_cases h : j < n
      · rw [hj j (by omega), marks_at a n j h]
      · rw [List.getElem?_eq_none (by omega), List.getElem?_eq_none (by rw [marks_length]; omega)]
    rw [this, show i = n by omega]
  | succ d ih =>
    intro m i h0 h1 hd hm hj
    refine ev_k ?_
    simp only [laws_markInt64S.l0]
    refine ev_pos (by omega) (ev_pos h0 ?_)
    rw [w64 (a := i + 1) (by omega) (by omega), w64 (a := a + i + 1) (by omega) (by omega), show a + i + 1 = a + (i + 1) by omega]
    refine ih _ (i + 1) (by omega) (by omega) (by omega) (by simpa using hm) fun j h => ?_
    rw [List.getElem?_set]
    split
    · subst_vars
      rw [if_pos (by omega), Int.toNat_of_nonneg h0]
    · exact hj j (by omega)
theorem markS (l : List Int) (a : Int) (ha : 0 ≤ a) (hn : a + l.length < 9223372036854775807) : Ev (fun k => laws_markInt64S.f k l a) (a + l.length, marks a l.length) := by
  unfold laws_markInt64S.f
  have h := mark_l0 l.length a ha hn l.length l 0 (by omega) (by omega) (by omega) rfl (fun j h => by simp at h)
  rwa [Int.add_zero] at h
theorem held_l0 (n : Nat) (a : Int) (ha : 0 ≤ a) (hn : a + n < 9223372036854775807) (d : Nat) : ∀ (i : Int), 0 ≤ i → i ≤ n → n - i = d →
    Ev (fun k => laws_heldInt64S.l0 k (marks a n) (a + i) i) (a + n) := by
  induction d with
  | zero =>
    intro i h0 h1 hd
    refine ev_k ?_
    simp only [laws_heldInt64S.l0]
    exact ev_neg (by rw [marks_length]; omega) (ev_some (by omega))
  | succ d ih =>
    intro i h0 h1 hd
    refine ev_k ?_
    simp only [laws_heldInt64S.l0]
    refine ev_pos (by rw [marks_length]; omega) (ev_pos h0 (ev_pos ?_ ?_))
    · have := marks_at a n i.toNat (by omega)
      simp only [rd, List.getD_eq_getElem?_getD, this, Option.getD_some]
      omega
    · rw [w64 (a := i + 1) (by omega) (by omega), w64 (a := a + i + 1) (by omega) (by omega), show a + i + 1 = a + (i + 1) by omega]
      exact ih (i + 1) (by omega) (by omega) (by omega)
theorem heldS (n : Nat) (a : Int) (ha : 0 ≤ a) (hn : a + n < 9223372036854775807) : Ev (fun k => laws_heldInt64S.f k (marks a n) a) (a + n) := by
  unfold laws_heldInt64S.f
  have h := held_l0 n a ha hn n 0 (by omega) (by omega) (by omega)
  rwa [Int.add_zero] at h
end Go.Proofs.YtcffgfomicpbfaaDoor.Q
namespace Go.Proofs.YtcffgfomicpbfaaDoor.Q
open Go Go.RowKit Go.Proofs.YtcffgfomicpbfaaDoor.P Go.Proofs.YtcffgfomicpbfaaDoorW.PrintWords Go.Proofs.YtcffgfomicpbfaaDoorW.PrintMore
theorem szD (n : Int) (l : List Int) (hl : l.length ≤ maxLen) : laws_szDigraph.f n l 1048576 = some (if l.length ≤ 1048576 then 1048576 - (l.length : Int) else -1) := by
  unfold laws_szDigraph.f
  rw [szS l hl]
  simp only [Option.bind_some]
  by_cases h : l.length ≤ 1048576
  · rw [if_pos h, if_neg (by omega)]
  · rw [if_neg h, if_pos (by decide)]
theorem toD (n : Int) (l : List Int) (hl : l.length ≤ 1048576) : Ev (fun m => laws_toDigraph.f m n l) (n, l) := by
  unfold laws_toDigraph.f
  exact Ev.bind (toS l (by omega)) (Ev.now _)
theorem eqD (n : Int) (l : List Int) (hl : l.length ≤ 1048576) : Ev (fun m => laws_eqDigraph.f m n l n l) true := by
  unfold laws_eqDigraph.f
  exact ev_pos rfl (Ev.bind (eqS_self l (by omega)) (ev_pos rfl (Ev.now _)))
theorem markD (n : Int) (l : List Int) (hl : l.length ≤ 1048576) : Ev (fun m => laws_markDigraph.f m n l 1) (1 + (l.length : Int), marks 1 l.length) := by
  unfold laws_markDigraph.f
  exact Ev.bind (markS l 1 (by omega) (by omega)) (Ev.now _)
end Go.Proofs.YtcffgfomicpbfaaDoor.Q
namespace Go.Proofs.YtcffgfomicpbfaaDoor.Q
open Go Go.RowKit Go.Proofs.YtcffgfomicpbfaaDoor.P Go.Proofs.YtcffgfomicpbfaaDoorW.PrintWords Go.Proofs.YtcffgfomicpbfaaDoorW.PrintMore
def tot : List (List Int) → Nat
  | [] => 0
  | x :: xs => x.length + tot xs
def marksSS (a : Int) : List (List Int) → List (List Int)
  | [] => []
  | x :: xs => marks a x.length :: marksSS (a + x.length) xs
theorem tot_le (c : Nat) (l : List (List Int)) (h : ∀ x ∈ l, x.length ≤ c) : tot l ≤ l.length * c := by
  induction l with
  | nil => simp [tot]
  | cons x l ih =>
    have a := h x List.mem_cons_self
    have b := ih fun y hy => h y (List.mem_cons_of_mem _ hy)
    simp only [tot, List.length_cons, Nat.add_mul, Nat.one_mul]
    omega
theorem rdL1_at (pre suf : List (List Int)) (x : List Int) : rd_L1 (pre ++ x :: suf) (pre.length : Int) = x := by
  simp [rd_L1, List.getD_eq_getElem?_getD]
theorem set_mid (pre suf : List (List Int)) (x y : List Int) : (pre ++ x :: suf).set pre.length y = pre ++ y :: suf := by
  induction pre with
  | nil => rfl
  | cons z pre ih => simp only [List.cons_append, List.length_cons, List.set_cons_succ, ih]
theorem eqSS_self (l : List (List Int)) (hl : l.length < 9223372036854775807) (hx : ∀ x ∈ l, x.length < 9223372036854775807) : Ev (fun k => laws_eqInt64SS.f k l l) true := by
  have loop : ∀ suf pre : List (List Int), pre ++ suf = l → Ev (fun k => laws_eqInt64SS.l0 k l l (pre.length : Int)) true := by
    intro suf
    induction suf with
    | nil =>
      intro pre e
      rw [List.append_nil] at e
      refine ev_k ?_
      simp only [laws_eqInt64SS.l0]
      exact ev_neg (by rw [e]; omega) (Ev.now _)
    | cons x suf ih =>
      intro pre e
      have hlen : pre.length < l.length := by rw [← e]; simp
      have hr : rd_L1 l (pre.length : Int) = x := by rw [← e]; exact rdL1_at pre suf x
      have := ih (pre ++ [x]) (by rw [← e]; simp)
      rw [List.length_append, List.length_singleton, Int.natCast_add] at this
      refine ev_k ?_
      simp only [laws_eqInt64SS.l0, hr]
      rw [w64 (a := (pre.length : Int) + 1) (by omega) (by omega)]
      exact ev_pos (by omega) (ev_pos (by omega) (ev_pos (by omega) (Ev.bind (eqS_self x (hx x (by rw [← e]; simp))) (ev_pos rfl this))))
  unfold laws_eqInt64SS.f
  exact ev_pos rfl (loop l [] rfl)
theorem heldSS (l : List (List Int)) (a : Int) (ha : 0 ≤ a) (hn : a + tot l < 9223372036854775807) (hl : l.length < 9223372036854775807) : Ev (fun k => laws_heldInt64SS.f k (marksSS a l) a) (a + tot l) := by
  have loop : ∀ (suf pre : List (List Int)) (b : Int), 0 ≤ b → b + tot suf < 9223372036854775807 → pre.length + suf.length < 9223372036854775807 → Ev (fun k => laws_heldInt64SS.l0 k (pre ++ marksSS b suf) b (pre.length : Int)) (b + tot suf) := by
    intro suf
    induction suf with
    | nil =>
      intro pre b b0 b1 h
      simp only [marksSS, List.append_nil, tot]
      refine ev_k ?_
      simp only [laws_heldInt64SS.l0]
      exact ev_neg (by omega) (ev_some (by simp))
    | cons x suf ih =>
      intro pre b b0 b1 h
      simp only [tot, List.length_cons] at b1 h
      have := ih (pre ++ [marks b x.length]) (b + x.length) (by omega) (by omega) (by simp; omega)
      rw [List.length_append, List.length_singleton, Int.natCast_add, List.append_assoc, List.singleton_append] at this
      simp only [marksSS, tot]
      refine ev_k ?_
      simp only [laws_heldInt64SS.l0]
      rw [rdL1_at]
      rw [w64 (a := (pre.length : Int) + 1) (by omega) (by omega)]
      refine ev_pos (by simp only [List.length_append, List.length_cons]; omega) (ev_pos (by omega) (Ev.bind (heldS x.length b b0 (by omega)) (ev_neg (by omega) ?_)))
      rw [show b + ((x.length + tot suf : Nat) : Int) = b + x.length + tot suf by omega]
      exact this
  exact loop l [] a ha hn (by simpa using hl)
theorem markSS (l : List (List Int)) (a : Int) (ha : 0 ≤ a) (hn : a + tot l < 9223372036854775807) (hl : l.length < 9223372036854775807) : Ev (fun k => laws_markInt64SS.f k l a) (a + tot l, marksSS a l) := by
  have loop : ∀ (suf pre : List (List Int)) (b : Int) (n : Int), 0 ≤ b → b + tot suf < 9223372036854775807 → pre.length + suf.length < 9223372036854775807 → n = pre.length + suf.length → Ev (fun k => laws_markInt64SS.l0 k n (pre ++ suf) b (pre.length : Int)) (b + tot suf, pre ++ marksSS b suf) := by
    intro suf
    induction suf with
    | nil =>
      intro pre b n b0 b1 h e
      simp only [List.length_nil] at e
      simp only [marksSS, List.append_nil, tot]
      refine ev_k ?_
      simp only [laws_markInt64SS.l0]
      exact ev_neg (by omega) (ev_some (by simp))
    | cons x suf ih =>
      intro pre b n b0 b1 h e
      simp only [tot, List.length_cons] at b1 h e
      have := ih (pre ++ [marks b x.length]) (b + x.length) n (by omega) (by omega) (by simp; omega) (by simp; omega)
      rw [List.length_append, List.length_singleton, Int.natCast_add, List.append_assoc, List.singleton_append, List.append_assoc, List.singleton_append] at this
      simp only [marksSS, tot]
      refine ev_k ?_
      simp only [laws_markInt64SS.l0]
      rw [rdL1_at]
      rw [w64 (a := (pre.length : Int) + 1) (by omega) (by omega)]
      refine ev_pos (by omega) (ev_pos (by omega) (Ev.bind (markS x b b0 (by omega)) ?_))
      rw [show b + ((x.length + tot suf : Nat) : Int) = b + x.length + tot suf by omega, show (pre ++ x :: suf).set (pre.length : Int).toNat (marks b x.length) = pre ++ marks b x.length :: suf by rw [Int.toNat_natCast]; exact set_mid pre suf x _]
      exact this
  unfold laws_markInt64SS.f
  exact loop l [] a l.length ha hn (by simpa using hl) (by simp)
end Go.Proofs.YtcffgfomicpbfaaDoor.Q
namespace Go.Proofs.YtcffgfomicpbfaaDoor.Pure
open Go Go.RowKit Go.Proofs.YtcffgfomicpbfaaDoor.P Go.Proofs.YtcffgfomicpbfaaDoorW.PrintWords Go.Proofs.YtcffgfomicpbfaaDoorW.PrintLast Go.Proofs.YtcffgfomicpbfaaDoorW.PrintMore Go.Proofs.YtcffgfomicpbfaaDoor.Q
theorem both (n : Int) (l : List Int) : ∃ g q, g.length ≤ 4000 ∧ (∀ x ∈ g, x.length ≤ 2) ∧ Ev (fun k => spec_ArcsOf.f k n l) (g, q) ∧ Ev (fun k => impl_ArcsOf.f k n l) (g, q) := by
  unfold spec_ArcsOf.f impl_ArcsOf.f
  by_cases hg : rows n l
  · have hl := arcsTo_length l n.toNat
    have n2 := hg.2.1
    refine ⟨arcsTo l n.toNat, 0, by omega, fun x hx => ?_, Ev.bind ((s_di n l).yes hg) (ev_pos rfl (Ev.bind (s_arcs hg) (Ev.now _))), ev_bind0 (i_di_yes hg) (ev_pos rfl (Ev.bind (i_arcs hg) (Ev.now _)))⟩
    obtain ⟨v, w, _, _, _, rfl⟩ := (arcsTo_mem hg n.toNat (by have := hg.1; omega) x).1 hx
    simp
  · exact ⟨[], 1, by simp, by simp, Ev.bind ((s_di n l).no hg) (ev_neg (by decide) (Ev.now _)), ev_bind0 (i_di_no hg) (ev_neg (by decide) (Ev.now _))⟩
theorem FnExactArcsOf : ∀ (a0_0 : Int) (l0_1 : List Int), (Lit.int .i64 a0_0).wf = true → l0_1.length ≤ maxLen → (∀ x ∈ l0_1, (Lit.int .i64 x).wf = true) → ∃ k, laws_FnExactArcsOf.f k a0_0 l0_1 = some true := by
  intro n l _ hl _
  refine Ev.rounds ?_
  unfold laws_FnExactArcsOf.f
  rw [szD n l hl]
  simp only [Option.bind_some]
  by_cases hs : l.length ≤ 1048576
  · rw [if_pos hs]
    refine ev_neg (by omega) ?_
    obtain ⟨g, q, hg, hx, h1, h2⟩ := both n l
    have ht := tot_le 2 g hx
    refine Ev.bind (toD n l hs) (Ev.bind h1 (Ev.bind h2 (Ev.bind (eqSS_self g (by omega) fun x h => by have := hx x h; omega) (Ev.bind (eqD n l hs) (Ev.bind (markD n l hs) (Ev.bind (markSS g 1 (by omega) (by omega) (by omega)) (Ev.bind (heldSS g 1 (by omega) (by omega) (by omega)) ?_)))))))
    exact ev_pos ⟨rfl, rfl, rfl, by simp only []; omega, by omega, rfl⟩ (Ev.now _)
  · rw [if_neg hs]
    exact ev_pos (by decide) (Ev.now _)
end Go.Proofs.YtcffgfomicpbfaaDoor.Pure
