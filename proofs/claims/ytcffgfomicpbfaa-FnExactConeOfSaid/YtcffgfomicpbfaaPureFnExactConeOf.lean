/- The pure law and what it leans on, in one text (wip/bin/bundle). -/
import Derived.Test.YtcffgfomicpbfaaP15
import Derived.Test.YtcffgfomicpbfaaP21
import Derived.Test.YtcffgfomicpbfaaP9
import Derived.Test.YtcffgfomicpbfaaP13
import Derived.Test.YtcffgfomicpbfaaP14
import Derived.Test.YtcffgfomicpbfaaP4
import Derived.Test.YtcffgfomicpbfaaP5
import Derived.Test.YtcffgfomicpbfaaP8
import Derived.Test.YtcffgfomicpbfaaP7
import Derived.Test.YtcffgfomicpbfaaWA
import Derived.Test.YtcffgfomicpbfaaWBMore
import Derived.Laws.BitsLemmas
import Derived.Test.YtcffgfomicpbfaaP12
import Derived.Test.YtcffgfomicpbfaaP2
import Derived.Test.YtcffgfomicpbfaaP3
import Derived.Test.YtcffgfomicpbfaaP1
import Derived.Test.YtcffgfomicpbfaaP11
import Derived.Test.YtcffgfomicpbfaaP17
import Derived.Test.YtcffgfomicpbfaaP18
import Derived.Test.YtcffgfomicpbfaaP20
import Derived.Test.YtcffgfomicpbfaaP10
import Derived.Test.YtcffgfomicpbfaaP16
import Derived.Test.YtcffgfomicpbfaaP19
namespace Go.Proofs.Ytcffgfomicpbfaa.Q
open Go Go.RowKit Go.Proofs.YtcffgfomicpbfaaW.PrintWords Go.Proofs.YtcffgfomicpbfaaW.PrintMore
theorem ev_k {α : Type} {g : Nat → Option α} {r : α} (h : Ev (fun k => g (k + 1)) r) : Ev g r := Ev.step (fun _ => rfl) h
theorem ev_some {α : Type} {r s : α} (h : r = s) : Ev (fun _ => some r) s := h ▸ Ev.now r
theorem ev_pos {α : Type} {c : Prop} [Decidable c] {f g : Nat → Option α} {r : α} (h : c) (H : Ev f r) : Ev (fun k => if c then f k else g k) r :=
  Ev.congr (fun _ => if_pos h) H
theorem ev_neg {α : Type} {c : Prop} [Decidable c] {f g : Nat → Option α} {r : α} (h : ¬ c) (H : Ev g r) : Ev (fun k => if c then f k else g k) r :=
  Ev.congr (fun _ => if_neg h) H
theorem ev_of {α : Type} {o : Option α} {r : α} (h : o = some r) : Ev (fun _ => o) r := ⟨0, fun _ _ => h⟩
theorem ev_bind0 {α β : Type} {o : Option α} {f : Nat → α → Option β} {a : α} {r : β} (h : o = some a) (H : Ev (fun n => f n a) r) : Ev (fun n => o.bind (f n)) r :=
  Ev.bind (ev_of h) H
theorem w64 {a : Int} (h0 : -9223372036854775808 ≤ a) (h1 : a < 9223372036854775808) : wrap64 a = a := by
  unfold wrap64
  omega
def Says (g : Nat → Option Bool) (P : Prop) : Prop := ∃ b : Bool, Ev g b ∧ (b = true ↔ P)
theorem says_iff {g : Nat → Option Bool} {P R : Prop} (h : P ↔ R) (H : Says g R) : Says g P := by
  obtain ⟨b, hb, e⟩ := H
  exact ⟨b, hb, e.trans h.symm⟩
theorem says_k {g : Nat → Option Bool} {P : Prop} (H : Says (fun k => g (k + 1)) P) : Says g P := by
  obtain ⟨b, hb, e⟩ := H
  exact ⟨b, ev_k hb, e⟩
theorem says_pos {c : Prop} [Decidable c] {f g : Nat → Option Bool} {P : Prop} (h : c) (H : Says f P) : Says (fun k => if c then f k else g k) P := by
  obtain ⟨b, hb, e⟩ := H
  exact ⟨b, ev_pos h hb, e⟩
theorem says_neg {c : Prop} [Decidable c] {f g : Nat → Option Bool} {P : Prop} (h : ¬ c) (H : Says g P) : Says (fun k => if c then f k else g k) P := by
  obtain ⟨b, hb, e⟩ := H
  exact ⟨b, ev_neg h hb, e⟩
theorem says_true {P : Prop} (h : P) : Says (fun _ => some true) P := ⟨true, Ev.now _, by simp [h]⟩
theorem says_false {P : Prop} (h : ¬ P) : Says (fun _ => some false) P := ⟨false, Ev.now _, by simp [h]⟩
theorem Says.yes {g : Nat → Option Bool} {P : Prop} (H : Says g P) (h : P) : Ev g true := by
  obtain ⟨b, hb, e⟩ := H
  rw [e.2 h] at hb
  exact hb
theorem Says.no {g : Nat → Option Bool} {P : Prop} (H : Says g P) (h : ¬ P) : Ev g false := by
  obtain ⟨b, hb, e⟩ := H
  cases b with
  | true => exact absurd (e.1 rfl) h
  | false => exact hb
end Go.Proofs.Ytcffgfomicpbfaa.Q
namespace Go.Proofs.Ytcffgfomicpbfaa.Q
open Go Go.RowKit Go.Proofs.YtcffgfomicpbfaaW.PrintWords Go.Proofs.YtcffgfomicpbfaaW.PrintLast Go.Proofs.YtcffgfomicpbfaaW.PrintMore
def tb (x i : Int) : Bool := decide (x / 2 ^ i.toNat % 2 = 1)
theorem wu64 {a : Int} (h0 : 0 ≤ a) (h1 : a < 18446744073709551616) : IntKind.u64.wrap a = a := by
  simp [IntKind.wrap, IntKind.bits, IntKind.signed]
  omega
theorem w64' (a : Int) : IntKind.i64.wrap a = wrap64 a := by
  rw [IntKind.wrap_i64]
  unfold wrap64
  rfl
theorem and_one (a : Int) : bits .and .i64 a 1 = a % 2 := by
  have e : (BitVec.ofInt 64 a &&& BitVec.ofInt 64 1).toNat = (a % 2).toNat := by
    rw [BitVec.toNat_and, show (BitVec.ofInt 64 1).toNat = 1 from rfl, Nat.and_one_is_mod, BitVec.toNat_ofInt]
    omega
  show IntKind.i64.wrap (((BitVec.ofInt 64 a &&& BitVec.ofInt 64 1).toNat : Nat) : Int) = a % 2
  rw [e, w64']
  rw [w64] <;> omega
theorem shr_at {x i : Int} (i0 : 0 ≤ i) (i1 : i ≤ 63) : shr .i64 x i = x / 2 ^ i.toNat := by
  unfold shr
  rw [Nat.min_eq_left (by simp [IntKind.bits]; omega)]
theorem bit_at {x i : Int} (i0 : 0 ≤ i) (i1 : i ≤ 63) : bits .and .i64 (shr .i64 x i) 1 = if tb x i then 1 else 0 := by
  rw [and_one, shr_at i0 i1]
  unfold tb
  have := Int.emod_two_eq (x / 2 ^ i.toNat)
  rcases this with h | h <;> simp [h]
theorem bit_is {x i : Int} (i0 : 0 ≤ i) (i1 : i ≤ 63) : (bits .and .i64 (shr .i64 x i) 1 == 1) = tb x i := by
  rw [bit_at i0 i1]
  cases tb x i <;> rfl
theorem bit_eq {x y i j : Int} (i0 : 0 ≤ i) (i1 : i ≤ 63) (j0 : 0 ≤ j) (j1 : j ≤ 63) : bits .and .i64 (shr .i64 x i) 1 = bits .and .i64 (shr .i64 y j) 1 ↔ tb x i = tb y j := by
  rw [bit_at i0 i1, bit_at j0 j1]
  cases tb x i <;> cases tb y j <;> simp
theorem two_pow_le {n : Int} (h0 : 0 ≤ n) (h1 : n ≤ 62) : (1 : Int) ≤ 2 ^ n.toNat ∧ (2 : Int) ^ n.toNat ≤ 4611686018427387904 := by
  have e : ((2 : Int) ^ n.toNat) = ((2 ^ n.toNat : Nat) : Int) := by simp
  have a : 2 ^ n.toNat ≤ 2 ^ 62 := Nat.pow_le_pow_right (by decide) (by omega)
  have b : 1 ≤ 2 ^ n.toNat := Nat.one_le_two_pow
  rw [e]
  omega
theorem shl_one {n : Int} (h0 : 0 ≤ n) (h1 : n ≤ 62) : shl .i64 1 n = 2 ^ n.toNat := by
  have := two_pow_le h0 h1
  unfold shl
  rw [Nat.min_eq_left (by simp [IntKind.bits]; omega), Int.one_mul, w64', w64] <;> omega
theorem tb_nat (x i : Nat) : tb (x : Int) (i : Int) = x.testBit i := by
  unfold tb
  rw [Nat.testBit_eq_decide_div_mod_eq]
  have : ((x : Int) / 2 ^ i) % 2 = ((x / 2 ^ i % 2 : Nat) : Int) := by simp
  rw [Int.toNat_natCast, this]
  exact decide_eq_decide.2 (by omega)
theorem or_nat (a b : Nat) (ha : a < 2 ^ 63) (hb : b < 2 ^ 63) : bits .or .i64 a b = ((a ||| b : Nat) : Int) :=
  (bits_nat .i64 63 (by decide) (fun n h0 h1 => by rw [w64', w64] <;> omega) a b ha hb).2
end Go.Proofs.Ytcffgfomicpbfaa.Q
namespace Go.Proofs.Ytcffgfomicpbfaa.Q
open Go Go.RowKit Go.Proofs.YtcffgfomicpbfaaW.PrintWords
def rows (n : Int) (l : List Int) : Prop := 1 ≤ n ∧ n ≤ 62 ∧ (l.length : Int) = n ∧ ∀ v, 0 ≤ v → v < n → 0 ≤ rd l v ∧ rd l v < 2 ^ n.toNat
def isG (n : Int) (l : List Int) : Prop := rows n l ∧ (∀ v, 0 ≤ v → v < n → tb (rd l v) v = false) ∧ ∀ v w, 0 ≤ v → v < n → 0 ≤ w → w < n → tb (rd l v) w = tb (rd l w) v
end Go.Proofs.Ytcffgfomicpbfaa.Q
namespace Go.Proofs.Ytcffgfomicpbfaa.Q
open Go Go.RowKit Go.Proofs.YtcffgfomicpbfaaW.PrintWords Go.Proofs.YtcffgfomicpbfaaW.PrintMore
def Mx (n : Int) (l : List Int) (P : Int → Int → Prop) : Prop := (l.length : Int) = n ∧ ∀ v, 0 ≤ v → v < n → (0 ≤ rd l v ∧ rd l v < 2 ^ n.toNat) ∧ ∀ w, 0 ≤ w → w < n → (tb (rd l v) w = true ↔ P v w)
theorem Mx.imp {n : Int} {l : List Int} {P Q : Int → Int → Prop} (h : Mx n l P) (e : ∀ v w, 0 ≤ v → v < n → 0 ≤ w → w < n → (P v w ↔ Q v w)) : Mx n l Q :=
  ⟨h.1, fun v v0 v1 => ⟨(h.2 v v0 v1).1, fun w w0 w1 => ((h.2 v v0 v1).2 w w0 w1).trans (e v w v0 v1 w0 w1)⟩⟩
theorem Mx.zero (n : Int) (n0 : 0 ≤ n) : Mx n (List.replicate n.toNat 0) (fun _ _ => False) := by
  refine ⟨by simp; omega, fun v v0 v1 => ?_⟩
  have e : rd (List.replicate n.toNat 0) v = 0 := by
    have : v.toNat < n.toNat := by omega
    simp [rd, List.getD_eq_getElem?_getD, this]
  rw [e]
  have p : (0 : Int) < 2 ^ n.toNat := Int.pow_pos (by decide)
  refine ⟨⟨by omega, p⟩, fun w w0 w1 => ?_⟩
  simp [tb]
theorem Mx.rows {n : Int} {l : List Int} {P : Int → Int → Prop} (h : Mx n l P) (n1 : 1 ≤ n) (n2 : n ≤ 62) : rows n l := ⟨n1, n2, h.1, fun v v0 v1 => (h.2 v v0 v1).1⟩
theorem rd_set {l : List Int} {i j : Int} (x : Int) (i0 : 0 ≤ i) (i1 : i < l.length) (j0 : 0 ≤ j) : rd (l.set i.toNat x) j = if j = i then x else rd l j := by
  simp only [rd, List.getD_eq_getElem?_getD, List.getElem?_set]
  by_cases h : j = i
  · subst h
    rw [if_pos rfl, if_pos rfl, if_pos (by omega)]
    rfl
  · rw [if_neg h, if_neg (by omega)]
theorem or_one {n x j : Int} (n2 : n ≤ 62) (x0 : 0 ≤ x) (x1 : x < 2 ^ n.toNat) (j0 : 0 ≤ j) (j1 : j < n) : (0 ≤ bits .or .i64 x (shl .i64 1 j) ∧ bits .or .i64 x (shl .i64 1 j) < 2 ^ n.toNat) ∧ ∀ w, 0 ≤ w → (tb (bits .or .i64 x (shl .i64 1 j)) w = true ↔ tb x w = true ∨ w = j) := by
  have e : ((2 : Int) ^ n.toNat) = ((2 ^ n.toNat : Nat) : Int) := by simp
  have p : 2 ^ n.toNat ≤ 2 ^ 62 := Nat.pow_le_pow_right (by decide) (by omega)
  have q : 2 ^ j.toNat < 2 ^ n.toNat := Nat.pow_lt_pow_right (by decide) (by omega)
  rw [e] at x1 ⊢
  obtain ⟨y, rfl⟩ := Int.eq_ofNat_of_zero_le x0
  rw [shl_one j0 (by omega), show ((2 : Int) ^ j.toNat) = ((2 ^ j.toNat : Nat) : Int) by simp, or_nat y (2 ^ j.toNat) (by omega) (by omega)]
  refine ⟨⟨by omega, ?_⟩, fun w w0 => ?_⟩
  · have := Nat.or_lt_two_pow (show y < 2 ^ n.toNat by omega) q
    omega
  · obtain ⟨w, rfl⟩ := Int.eq_ofNat_of_zero_le w0
    rw [tb_nat, tb_nat, Nat.testBit_or, Nat.testBit_two_pow]
    simp only [Bool.or_eq_true, decide_eq_true_eq]
    refine or_congr Iff.rfl ?_
    omega
theorem Mx.or {n : Int} {l : List Int} {P : Int → Int → Prop} (h : Mx n l P) (n2 : n ≤ 62) {i j : Int} (i0 : 0 ≤ i) (i1 : i < n) (j0 : 0 ≤ j) (j1 : j < n) : Mx n (l.set i.toNat (bits .or .i64 (rd l i) (shl .i64 1 j))) (fun v w => P v w ∨ (v = i ∧ w = j)) := by
  refine ⟨by simpa using h.1, fun v v0 v1 => ?_⟩
  rw [rd_set _ i0 (by have := h.1; omega) v0]
  obtain ⟨⟨a0, a1⟩, a2⟩ := h.2 v v0 v1
  by_cases hv : v = i
  · rw [if_pos hv]
    subst hv
    obtain ⟨b, b2⟩ := or_one n2 a0 a1 j0 j1
    exact ⟨b, fun w w0 w1 => (b2 w w0).trans (or_congr (a2 w w0 w1) (by simp))⟩
  · rw [if_neg hv]
    exact ⟨⟨a0, a1⟩, fun w w0 w1 => (a2 w w0 w1).trans (by simp [hv])⟩
end Go.Proofs.Ytcffgfomicpbfaa.Q
namespace Go.Proofs.Ytcffgfomicpbfaa.Q
open Go Go.RowKit Go.Proofs.Ytcffgfomicpbfaa.P Go.Proofs.YtcffgfomicpbfaaW.PrintWords Go.Proofs.YtcffgfomicpbfaaW.PrintMore
def joined (m : List Int) (v u : Int) : List Int :=
  let y := m.set v.toNat (bits .or .i64 (rd m v) (shl .i64 1 u))
  y.set u.toNat (bits .or .i64 (rd y u) (shl .i64 1 v))
theorem Mx.joined {n : Int} {m : List Int} {P : Int → Int → Prop} (h : Mx n m P) (n2 : n ≤ 62) {v u : Int} (v0 : 0 ≤ v) (v1 : v < n) (u0 : 0 ≤ u) (u1 : u < n) : Mx n (joined m v u) (fun a b => P a b ∨ (a = v ∧ b = u) ∨ (a = u ∧ b = v)) :=
  ((h.or n2 v0 v1 u0 u1).or n2 u0 u1 v0 v1).imp fun a b _ _ _ _ => ⟨fun z => by rcases z with (z | z) | z; exact .inl z; exact .inr (.inl z); exact .inr (.inr z), fun z => by rcases z with z | z | z; exact .inl (.inl z); exact .inl (.inr z); exact .inr z⟩
theorem s_put (n : Int) (m : List Int) (v u : Int) (v0 : 0 ≤ v) (v1 : v < m.length) (u0 : 0 ≤ u) (u1 : u < m.length) (hm : m.length ≤ 62) : spec_l01Put.f n m v u = some (joined m v u) := by
  unfold spec_l01Put.f joined
  rw [wu64 v0 (by omega), wu64 u0 (by omega), if_pos v0, if_pos v1, if_pos u0]
  simp only [Option.bind_some]
  rw [if_pos u0, if_pos u1, if_pos v0]
theorem i_put (n : Int) (m : List Int) (v u : Int) (v0 : 0 ≤ v) (v1 : v < m.length) (u0 : 0 ≤ u) (u1 : u < m.length) (e : v ≠ u) : impl_Graph_put.f n m v u = some (joined m v u) := by
  unfold impl_Graph_put.f joined
  rw [if_neg e, if_pos v0, if_pos v1, if_pos u0]
  simp only [Option.bind_some]
  rw [if_pos u1]
theorem s_empty (n : Int) (n0 : 0 ≤ n) (n2 : n ≤ 62) : spec_l01Empty.f n = some (n, List.replicate n.toNat 0) := by
  unfold spec_l01Empty.f
  rw [if_pos n0, if_pos (by omega)]
theorem i_empty (n : Int) (n0 : 0 ≤ n) (n2 : n ≤ 62) : impl_empty.f n = some (n, List.replicate n.toNat 0) := by
  unfold impl_empty.f
  rw [if_pos n0, if_pos (by omega)]
end Go.Proofs.Ytcffgfomicpbfaa.Q
namespace Go.Proofs.Ytcffgfomicpbfaa.Q
open Go Go.RowKit Go.Proofs.Ytcffgfomicpbfaa.P
theorem s_in (a b c : Int) : spec_l01In.f a b c = some (decide (b ≤ a ∧ a ≤ c)) := by
  unfold spec_l01In.f
  split
  · exact congrArg some (decide_eq_decide.2 (by omega))
  · exact congrArg some (decide_eq_false (by omega)).symm
end Go.Proofs.Ytcffgfomicpbfaa.Q
namespace Go.Proofs.Ytcffgfomicpbfaa.Q
open Go Go.RowKit
end Go.Proofs.Ytcffgfomicpbfaa.Q
namespace Go.Proofs.Ytcffgfomicpbfaa.Q
open Go Go.RowKit Go.Proofs.Ytcffgfomicpbfaa.P Go.Proofs.YtcffgfomicpbfaaW.PrintWords Go.Proofs.YtcffgfomicpbfaaW.PrintMore
set_option linter.unusedVariables false
theorem s_has (n : Int) (l : List Int) (v w : Int) (v0 : 0 ≤ v) (v1 : v < l.length) (w0 : 0 ≤ w) (w1 : w ≤ 63) : spec_l01Has.f n l v w = some (tb (rd l v) w) := by
  unfold spec_l01Has.f
  rw [if_pos v0, if_pos v1, wu64 w0 (by omega), if_pos w0, bit_is w0 w1]
section
variable {n : Int} {l : List Int} (n1 : 1 ≤ n) (n2 : n ≤ 62) (hn : (l.length : Int) = n)
include n1 n2 hn
theorem s_is_l1 (d : Nat) : ∀ v : Int, 0 ≤ v → v ≤ n → n - v = d → Says (fun k => spec_l01Is.l1 k v n l) (∀ a, v ≤ a → a < n → ∀ b, 0 ≤ b → b < a → tb (rd l a) b = tb (rd l b) a) := by
  induction d with
  | zero =>
    intro v v0 v1 hd
    refine says_k ?_
    simp only [spec_l01Is.l1]
    exact says_neg (by omega) (says_true fun a _ _ => by omega)
  | succ d ih =>
    intro v v0 v1 hd
    have hv : v < n := by omega
    have inner : ∀ (e : Nat) (w : Int), 0 ≤ w → w ≤ v → v - w = e → Says (fun k => spec_l01Is.l2 k v w n l) ((∀ b, w ≤ b → b < v → tb (rd l v) b = tb (rd l b) v) ∧ ∀ a, v + 1 ≤ a → a < n → ∀ b, 0 ≤ b → b < a → tb (rd l a) b = tb (rd l b) a) := by
      intro e
      induction e with
      | zero =>
        intro w w0 w1 he
        refine says_k ?_
        simp only [spec_l01Is.l2]
        refine says_neg (by omega) ?_
        rw [w64 (a := v + 1) (by omega) (by omega)]
        exact says_iff ⟨fun h => h.2, fun h => ⟨fun b _ _ => by omega, h⟩⟩ (ih (v + 1) (by omega) (by omega) (by omega))
      | succ e ihe =>
        intro w w0 w1 he
        refine says_k ?_
        simp only [spec_l01Is.l2]
        refine says_pos (by omega) ?_
        rw [s_has n l v w v0 (by omega) w0 (by omega), s_has n l w v w0 (by omega) v0 (by omega)]
        simp only [Option.bind_some]
        by_cases h : tb (rd l v) w = tb (rd l w) v
        · refine says_neg (by simp [h]) ?_
          rw [w64 (a := w + 1) (by omega) (by omega)]
          exact says_iff ⟨fun z => ⟨fun b b0 b1 => z.1 b (by omega) b1, z.2⟩, fun z => ⟨fun b b0 b1 => if hb : b = w then by rw [hb]; exact h else z.1 b (by omega) b1, z.2⟩⟩ (ihe (w + 1) (by omega) (by omega) (by omega))
        · exact says_pos (by simp [h]) (says_false fun z => h (z.1 w (by omega) (by omega)))
    refine says_k ?_
    simp only [spec_l01Is.l1]
    exact says_pos hv (says_iff ⟨fun z => ⟨fun b b0 b1 => z v (by omega) hv b b0 b1, fun a a0 a1 => z a (by omega) a1⟩, fun z a a0 a1 b b0 b1 => if ha : a = v then by subst ha; exact z.1 b b0 b1 else z.2 a (by omega) a1 b b0 b1⟩ (inner v.toNat 0 (by omega) (by omega) (by omega)))
theorem s_is_l0 (d : Nat) : ∀ v : Int, 0 ≤ v → v ≤ n → n - v = d → Says (fun k => spec_l01Is.l0 k v n l) ((∀ a, v ≤ a → a < n → (0 ≤ rd l a ∧ rd l a < 2 ^ n.toNat) ∧ tb (rd l a) a = false) ∧ ∀ a, 0 ≤ a → a < n → ∀ b, 0 ≤ b → b < a → tb (rd l a) b = tb (rd l b) a) := by
  have hp := two_pow_le (n := n) (by omega) n2
  induction d with
  | zero =>
    intro v v0 v1 hd
    refine says_k ?_
    simp only [spec_l01Is.l0]
    exact says_neg (by omega) (says_iff ⟨fun h => h.2, fun h => ⟨fun a _ _ => by omega, h⟩⟩ (s_is_l1 n1 n2 hn n.toNat 0 (by omega) (by omega) (by omega)))
  | succ d ih =>
    intro v v0 v1 hd
    refine says_k ?_
    simp only [spec_l01Is.l0]
    rw [wu64 (a := n) (by omega) (by omega), shl_one (by omega) n2, w64 (a := 2 ^ n.toNat - 1) (by omega) (by omega)]
    refine says_pos (by omega) (says_pos v0 (says_pos (by omega) (says_pos (by omega) ?_)))
    rw [s_in, s_has n l v v v0 (by omega) v0 (by omega)]
    simp only [Option.bind_some]
    by_cases h : 0 ≤ rd l v ∧ rd l v ≤ 2 ^ n.toNat - 1
    · refine says_pos (decide_eq_true h) ?_
      by_cases ht : tb (rd l v) v = true
      · exact says_pos ht (says_false fun z => by have := (z.1 v (by omega) (by omega)).2; rw [ht] at this; cases this)
      · refine says_neg ht ?_
        rw [w64 (a := v + 1) (by omega) (by omega)]
        refine says_iff ⟨fun z => ⟨fun a a0 a1 => z.1 a (by omega) a1, z.2⟩, fun z => ⟨fun a a0 a1 => if ha : a = v then ?_ else z.1 a (by omega) a1, z.2⟩⟩ (ih (v + 1) (by omega) (by omega) (by omega))
        subst ha
        exact ⟨by omega, by simpa using ht⟩
    · exact says_neg (by simpa using h) (says_false fun z => h (by have := (z.1 v (by omega) (by omega)).1; omega))
theorem i_is_l1 (v : Int) (v0 : 0 ≤ v) (v1 : v < n) (x : Int) (y3 y4 : Int) (y5 : List Int) (P : Prop) (hc : Says (fun k => impl_IsGraph.l0 k n y5 y3 (wrap64 (y4 + 1)) n l) P) (d : Nat) : ∀ w : Int, 0 ≤ w → w ≤ n → n - w = d →
    Says (fun k => impl_IsGraph.l1 k n v x y5 y3 y4 n w n l) ((∀ b, w ≤ b → b < n → tb x b = tb (rd l b) v) ∧ P) := by
  induction d with
  | zero =>
    intro w w0 w1 hd
    refine says_k ?_
    simp only [impl_IsGraph.l1]
    exact says_neg (by omega) (says_iff ⟨fun h => h.2, fun h => ⟨fun b _ _ => by omega, h⟩⟩ hc)
  | succ d ih =>
    intro w w0 w1 hd
    refine says_k ?_
    simp only [impl_IsGraph.l1]
    refine says_pos (by omega) (says_pos w0 (says_pos (by omega) (says_pos v0 ?_)))
    by_cases h : tb x w = tb (rd l w) v
    · refine says_pos ((bit_eq w0 (by omega) v0 (by omega)).2 h) ?_
      rw [w64 (a := w + 1) (by omega) (by omega)]
      exact says_iff ⟨fun z => ⟨fun b b0 b1 => z.1 b (by omega) b1, z.2⟩, fun z => ⟨fun b b0 b1 => if hb : b = w then by rw [hb]; exact h else z.1 b (by omega) b1, z.2⟩⟩ (ih (w + 1) (by omega) (by omega) (by omega))
    · exact says_neg (fun z => h ((bit_eq w0 (by omega) v0 (by omega)).1 z)) (says_false fun z => h (z.1 w (by omega) (by omega)))
theorem i_is_l0 (d : Nat) : ∀ v : Int, 0 ≤ v → v ≤ n → n - v = d → Says (fun k => impl_IsGraph.l0 k n l n v n l) (∀ a, v ≤ a → a < n → ((0 ≤ rd l a ∧ rd l a < 2 ^ n.toNat) ∧ tb (rd l a) a = false) ∧ ∀ b, 0 ≤ b → b < n → tb (rd l a) b = tb (rd l b) a) := by
  induction d with
  | zero =>
    intro v v0 v1 hd
    refine says_k ?_
    simp only [impl_IsGraph.l0]
    exact says_neg (by omega) (says_true fun a _ _ => by omega)
  | succ d ih =>
    intro v v0 v1 hd
    have hv : v < n := by omega
    have ih := ih (v + 1) (by omega) (by omega) (by omega)
    have bad : ∀ (P : Prop), ¬ P → Says (fun k => impl_IsGraph.j2 k n v (rd l v) l n v true n l) P := fun P hP => by
      refine says_k ?_
      simp only [impl_IsGraph.j2]
      exact says_pos trivial (says_false hP)
    refine says_k ?_
    simp only [impl_IsGraph.l0]
    refine says_pos hv (says_pos v0 (says_pos (by omega) ?_))
    by_cases h0 : rd l v < 0
    · exact says_pos h0 (bad _ fun z => by have := (z v (by omega) hv).1.1; omega)
    · refine says_neg h0 (says_pos (by omega) ?_)
      rw [shl_one (by omega) n2]
      by_cases h1 : rd l v ≥ 2 ^ n.toNat
      · exact says_pos h1 (bad _ fun z => by have := (z v (by omega) hv).1.1; omega)
      · refine says_neg h1 ?_
        rw [bit_is v0 (by omega)]
        cases ht : tb (rd l v) v with
        | true => exact bad _ fun z => by have := (z v (by omega) hv).1.2; rw [ht] at this; cases this
        | false =>
          refine says_k ?_
          simp only [impl_IsGraph.j2]
          refine says_neg (by decide) ?_
          refine says_iff ?_ (i_is_l1 n1 n2 hn v v0 hv (rd l v) n v l _ (by rw [w64 (a := v + 1) (by omega) (by omega)]; exact ih) n.toNat 0 (by omega) (by omega) (by omega))
          exact ⟨fun z => ⟨(z v (by omega) hv).2, fun a a0 a1 => z a (by omega) a1⟩, fun z a a0 a1 => if ha : a = v then by subst ha; exact ⟨⟨by omega, ht⟩, z.1⟩ else z.2 a (by omega) a1⟩
end
theorem s_is (n : Int) (l : List Int) : Says (fun k => spec_l01Is.f k n l) (isG n l) := by
  have bad : ¬ isG n l → Says (fun k => spec_l01Is.j0 k true n l) (isG n l) := fun h => by
    refine says_k ?_
    simp only [spec_l01Is.j0]
    exact says_pos trivial (says_false h)
  unfold spec_l01Is.f
  rw [s_in]
  simp only [Option.bind_some]
  by_cases h1 : 1 ≤ n ∧ n ≤ 62
  · refine says_pos (decide_eq_true h1) ?_
    by_cases h2 : (l.length : Int) = n
    · refine says_k ?_
      simp only [spec_l01Is.j0]
      refine says_neg (by simp [h2]) ?_
      refine says_iff ?_ (s_is_l0 h1.1 h1.2 h2 n.toNat 0 (by omega) (by omega) (by omega))
      constructor
      · exact fun ⟨⟨_, _, _, r⟩, lo, sy⟩ => ⟨fun a a0 a1 => ⟨r a a0 a1, lo a a0 a1⟩, fun a a0 a1 b b0 b1 => sy a b a0 a1 b0 (by omega)⟩
      · intro ⟨z, sy⟩
        refine ⟨⟨h1.1, h1.2, h2, fun a a0 a1 => (z a a0 a1).1⟩, fun a a0 a1 => (z a a0 a1).2, fun a b a0 a1 b0 b1 => ?_⟩
        rcases Int.lt_trichotomy a b with h | h | h
        · exact (sy b b0 b1 a a0 h).symm
        · rw [h]
        · exact sy a a0 a1 b b0 h
    · rw [show ((l.length : Int) != n) = true by simpa using h2]
      exact bad fun z => h2 z.1.2.2.1
  · exact says_neg (by simpa using h1) (bad fun z => h1 ⟨z.1.1, z.1.2.1⟩)
theorem i_is (n : Int) (l : List Int) : Says (fun k => impl_IsGraph.f k n l) (isG n l) := by
  have bad : ¬ isG n l → Says (fun k => impl_IsGraph.j0 k n true n l) (isG n l) := fun h => by
    refine says_k ?_
    simp only [impl_IsGraph.j0]
    exact says_pos trivial (says_false h)
  unfold impl_IsGraph.f
  by_cases h1 : n < 1
  · exact says_pos h1 (bad fun z => by have := z.1.1; omega)
  · refine says_neg h1 ?_
    by_cases h2 : n > 62
    · exact says_pos h2 (bad fun z => by have := z.1.2.1; omega)
    · refine says_neg h2 ?_
      by_cases h3 : (l.length : Int) = n
      · refine says_k ?_
        simp only [impl_IsGraph.j0]
        refine says_neg (by simp [h3]) ?_
        have := i_is_l0 (n := n) (l := l) (by omega) (by omega) h3 n.toNat 0 (by omega) (by omega) (by omega)
        rw [h3]
        refine says_iff ?_ this
        constructor
        · exact fun ⟨⟨_, _, _, r⟩, lo, sy⟩ a a0 a1 => ⟨⟨r a a0 a1, lo a a0 a1⟩, fun b b0 b1 => sy a b a0 a1 b0 b1⟩
        · exact fun z => ⟨⟨by omega, by omega, h3, fun a a0 a1 => (z a a0 a1).1.1⟩, fun a a0 a1 => (z a a0 a1).1.2, fun a b a0 a1 b0 b1 => (z a a0 a1).2 b b0 b1⟩
      · rw [show ((l.length : Int) != n) = true by simpa using h3]
        exact bad fun z => h3 z.1.2.2.1
end Go.Proofs.Ytcffgfomicpbfaa.Q
namespace Go.Proofs.Ytcffgfomicpbfaa.Q
open Go Go.RowKit Go.Proofs.Ytcffgfomicpbfaa.P Go.Proofs.YtcffgfomicpbfaaW.PrintWords Go.Proofs.YtcffgfomicpbfaaW.PrintMore
theorem s_code9_yes {n : Int} {l : List Int} (h : isG n l) : Ev (fun k => spec_l09Code.f k [⟨n, l⟩]) 0 := by
  unfold spec_l09Code.f
  refine ev_k ?_
  simp only [spec_l09Code.l0]
  refine ev_pos (by simp) (ev_pos (by omega) (Ev.bind ((s_is n l).yes h) (ev_pos rfl ?_)))
  refine ev_k ?_
  simp only [spec_l09Code.l0]
  exact ev_neg (by simp [wrap64]) (Ev.now _)
theorem s_code9_no {n : Int} {l : List Int} (h : ¬ isG n l) : Ev (fun k => spec_l09Code.f k [⟨n, l⟩]) 1 := by
  unfold spec_l09Code.f
  refine ev_k ?_
  simp only [spec_l09Code.l0]
  exact ev_pos (by simp) (ev_pos (by omega) (Ev.bind ((s_is n l).no h) (ev_neg (by decide) (Ev.now _))))
theorem s_told_yes {a : Int} (h : 1 ≤ a ∧ a ≤ 62) : spec_l09Told.f a = some 0 := by
  unfold spec_l09Told.f
  rw [s_in]
  simp [h]
theorem s_told_no {a : Int} (h : ¬ (1 ≤ a ∧ a ≤ 62)) : spec_l09Told.f a = some 3 := by
  unfold spec_l09Told.f
  rw [s_in]
  simp only [Option.bind_some]
  rw [if_neg (by simpa using h)]
theorem i_limited_yes {a : Int} (h : 1 ≤ a ∧ a ≤ 62) : impl_limitedCode.f a = some 0 := by
  unfold impl_limitedCode.f
  rw [if_neg (by omega), if_neg (by omega)]
theorem i_limited_no {a : Int} (h : ¬ (1 ≤ a ∧ a ≤ 62)) : impl_limitedCode.f a = some 3 := by
  unfold impl_limitedCode.f
  by_cases z : a < 1
  · rw [if_pos z]
  · rw [if_neg z, if_pos (by omega)]
end Go.Proofs.Ytcffgfomicpbfaa.Q
namespace Go.Proofs.Ytcffgfomicpbfaa.Q
open Go Go.RowKit Go.Proofs.Ytcffgfomicpbfaa.P Go.Proofs.YtcffgfomicpbfaaW.PrintWords Go.Proofs.YtcffgfomicpbfaaW.PrintMore
theorem rd_at (l : List Int) (i : Int) (h1 : i.toNat < l.length) : rd l i = l[i.toNat] := by
  simp [rd, List.getD_eq_getElem?_getD, List.getElem?_eq_getElem h1]
theorem toS_l0 (l : List Int) (hl : l.length < 9223372036854775807) (d : Nat) : ∀ (m : List Int) (i : Int), 0 ≤ i → i ≤ l.length → l.length - i = d → m.length = l.length → (∀ j, j < i.toNat → m[j]? = l[j]?) →
    Ev (fun k => laws_toInt64S.l0 k l m i) l := by
  induction d with
  | zero =>
    intro m i h0 h1 hd hm hj
    refine ev_k ?_
    simp only [laws_toInt64S.l0]
    refine ev_neg (by omega) (ev_some (List.ext_getElem? fun j => ?_))
    by_cases h : j < i.toNat
    · exact hj j h
    · rw [List.getElem?_eq_none (by omega), List.getElem?_eq_none (by omega)]
  | succ d ih =>
    intro m i h0 h1 hd hm hj
    refine ev_k ?_
    simp only [laws_toInt64S.l0]
    refine ev_pos (by omega) (ev_pos h0 (ev_pos (by omega) ?_))
    rw [w64 (a := i + 1) (by omega) (by omega)]
    refine ih _ (i + 1) (by omega) (by omega) (by omega) (by simpa using hm) fun j h => ?_
    rw [List.getElem?_set]
    split
    · subst_vars
      rw [if_pos (by omega), rd_at l i (by omega), List.getElem?_eq_getElem]
    · exact hj j (by omega)
theorem toS (l : List Int) (hl : l.length ≤ 35184372088832) : Ev (fun k => laws_toInt64S.f k l) l := by
  unfold laws_toInt64S.f
  refine ev_pos (by omega) (ev_pos (by omega) ?_)
  exact toS_l0 l (by omega) l.length _ 0 (by omega) (by omega) (by omega) (by simp) (fun j h => by simp at h)
theorem eqS_l0 (l m : List Int) (e : l.length = m.length) (hl : l.length < 9223372036854775807) (d : Nat) : ∀ (i : Int), 0 ≤ i → i ≤ l.length → l.length - i = d →
    Ev (fun k => laws_eqInt64S.l0 k l m i) (decide (l.drop i.toNat = m.drop i.toNat)) := by
  have dc : ∀ (l : List Int) (i : Int), 0 ≤ i → i < l.length → l.drop i.toNat = rd l i :: l.drop (i + 1).toNat := fun l i h0 h1 => by
    rw [List.drop_eq_getElem_cons (by omega : i.toNat < l.length), show (i + 1).toNat = i.toNat + 1 by omega, rd_at l i (by omega)]
  induction d with
  | zero =>
    intro i h0 h1 hd
    refine ev_k ?_
    simp only [laws_eqInt64S.l0]
    refine ev_neg (by omega) (ev_some ?_)
    rw [List.drop_of_length_le (by omega), List.drop_of_length_le (by omega)]
    rfl
  | succ d ih =>
    intro i h0 h1 hd
    refine ev_k ?_
    simp only [laws_eqInt64S.l0]
    refine ev_pos (by omega) (ev_pos h0 (ev_pos (by omega) ?_))
    rw [w64 (a := i + 1) (by omega) (by omega), dc l i h0 (by omega), dc m i h0 (by omega)]
    by_cases h : rd l i = rd m i
    · refine ev_pos h ?_
      simp only [List.cons.injEq, h, true_and]
      exact ih (i + 1) (by omega) (by omega) (by omega)
    · refine ev_neg h (ev_some ?_)
      simp [h]
theorem eqS (l m : List Int) (hl : l.length < 9223372036854775807) : Ev (fun k => laws_eqInt64S.f k l m) (decide (l = m)) := by
  unfold laws_eqInt64S.f
  by_cases e : l.length = m.length
  · refine ev_pos (by omega) ?_
    simpa using eqS_l0 l m e hl l.length 0 (by omega) (by omega) (by omega)
  · refine ev_neg (by omega) (ev_some ?_)
    exact (decide_eq_false fun h => e (by rw [h])).symm
theorem eqS_self (l : List Int) (hl : l.length < 9223372036854775807) : Ev (fun k => laws_eqInt64S.f k l l) true := by
  simpa using eqS l l hl
theorem szS (l : List Int) (hl : l.length ≤ maxLen) : laws_szInt64S.f l 1048576 = some (if l.length ≤ 1048576 then 1048576 - (l.length : Int) else -1) := by
  unfold maxLen at hl
  unfold laws_szInt64S.f
  rw [w64 (by omega) (by omega)]
  by_cases h : l.length ≤ 1048576
  · rw [if_neg (by omega), if_pos h]
  · rw [if_pos (by omega), if_neg h]
def marks (a : Int) (n : Nat) : List Int := (List.range n).map fun (j : Nat) => a + (j : Int)
theorem marks_length (a : Int) (n : Nat) : (marks a n).length = n := by simp [marks]
theorem marks_at (a : Int) (n j : Nat) (h : j < n) : (marks a n)[j]? = some (a + j) := by
  simp [marks, h]
theorem mark_l0 (n : Nat) (a : Int) (ha : 0 ≤ a) (hn : a + n < 9223372036854775807) (d : Nat) : ∀ (m : List Int) (i : Int), 0 ≤ i → i ≤ n → n - i = d → m.length = n → (∀ j, j < i.toNat → m[j]? = some (a + j)) →
    Ev (fun k => laws_markInt64S.l0 k m (a + i) i) (a + n, marks a n) := by
  induction d with
  | zero =>
    intro m i h0 h1 hd hm hj
    refine ev_k ?_
    simp only [laws_markInt64S.l0]
    refine ev_neg (by omega) (ev_some ?_)
    have : m = marks a n := by
      refine List.ext_getElem? fun j => ?_
      by_cases h : j < n
      · rw [hj j (by omega), marks_at a n j h]
      · rw [List.getElem?_eq_none (by omega), List.getElem?_eq_none (by rw [marks_length]; omega)]
    rw [this, show i = n by omega]
  | succ d ih =>
    intro m i h0 h1 hd hm hj
    refine ev_k ?_
    simp only [laws_markInt64S.l0]
    refine ev_pos (by omega) (ev_pos h0 ?_)
    rw [w64 (a := i + 1) (by omega) (by omega), w64 (a := a + i + 1) (by omega) (by omega), show a + i + 1 = a + (i + 1) by omega]
    refine ih _ (i + 1) (by omega) (by omega) (by omega) (by simpa using hm) fun j h => ?_
    rw [List.getElem?_set]
    split
    · subst_vars
      rw [if_pos (by omega), Int.toNat_of_nonneg h0]
    · exact hj j (by omega)
theorem markS (l : List Int) (a : Int) (ha : 0 ≤ a) (hn : a + l.length < 9223372036854775807) : Ev (fun k => laws_markInt64S.f k l a) (a + l.length, marks a l.length) := by
  unfold laws_markInt64S.f
  have h := mark_l0 l.length a ha hn l.length l 0 (by omega) (by omega) (by omega) rfl (fun j h => by simp at h)
  rwa [Int.add_zero] at h
theorem held_l0 (n : Nat) (a : Int) (ha : 0 ≤ a) (hn : a + n < 9223372036854775807) (d : Nat) : ∀ (i : Int), 0 ≤ i → i ≤ n → n - i = d →
    Ev (fun k => laws_heldInt64S.l0 k (marks a n) (a + i) i) (a + n) := by
  induction d with
  | zero =>
    intro i h0 h1 hd
    refine ev_k ?_
    simp only [laws_heldInt64S.l0]
    exact ev_neg (by rw [marks_length]; omega) (ev_some (by omega))
  | succ d ih =>
    intro i h0 h1 hd
    refine ev_k ?_
    simp only [laws_heldInt64S.l0]
    refine ev_pos (by rw [marks_length]; omega) (ev_pos h0 (ev_pos ?_ ?_))
    · have := marks_at a n i.toNat (by omega)
      simp only [rd, List.getD_eq_getElem?_getD, this, Option.getD_some]
      omega
    · rw [w64 (a := i + 1) (by omega) (by omega), w64 (a := a + i + 1) (by omega) (by omega), show a + i + 1 = a + (i + 1) by omega]
      exact ih (i + 1) (by omega) (by omega) (by omega)
theorem heldS (n : Nat) (a : Int) (ha : 0 ≤ a) (hn : a + n < 9223372036854775807) : Ev (fun k => laws_heldInt64S.f k (marks a n) a) (a + n) := by
  unfold laws_heldInt64S.f
  have h := held_l0 n a ha hn n 0 (by omega) (by omega) (by omega)
  rwa [Int.add_zero] at h
end Go.Proofs.Ytcffgfomicpbfaa.Q
namespace Go.Proofs.Ytcffgfomicpbfaa.Q
open Go Go.RowKit Go.Proofs.Ytcffgfomicpbfaa.P Go.Proofs.YtcffgfomicpbfaaW.PrintWords Go.Proofs.YtcffgfomicpbfaaW.PrintMore
theorem szG (n : Int) (l : List Int) (hl : l.length ≤ maxLen) : laws_szGraph.f n l 1048576 = some (if l.length ≤ 1048576 then 1048576 - (l.length : Int) else -1) := by
  unfold laws_szGraph.f
  rw [szS l hl]
  simp only [Option.bind_some]
  by_cases h : l.length ≤ 1048576
  · rw [if_pos h, if_neg (by omega)]
  · rw [if_neg h, if_pos (by decide)]
theorem toG (n : Int) (l : List Int) (hl : l.length ≤ 1048576) : Ev (fun m => laws_toGraph.f m n l) (n, l) := by
  unfold laws_toGraph.f
  exact Ev.bind (toS l (by omega)) (Ev.now _)
theorem eqG (n : Int) (l : List Int) (hl : l.length ≤ 1048576) : Ev (fun m => laws_eqGraph.f m n l n l) true := by
  unfold laws_eqGraph.f
  exact ev_pos rfl (Ev.bind (eqS_self l (by omega)) (ev_pos rfl (Ev.now _)))
theorem markG (n : Int) (l : List Int) (hl : l.length ≤ 1048576) : Ev (fun m => laws_markGraph.f m n l 1) (1 + (l.length : Int), marks 1 l.length) := by
  unfold laws_markGraph.f
  exact Ev.bind (markS l 1 (by omega) (by omega)) (Ev.now _)
theorem heldG (n : Int) (j : Nat) (hl : j ≤ 1048576) : Ev (fun m => laws_heldGraph.f m n (marks 1 j) 1) (1 + (j : Int)) := by
  unfold laws_heldGraph.f
  exact Ev.bind (heldS j 1 (by omega) (by omega)) (ev_neg (by omega) (Ev.now _))
end Go.Proofs.Ytcffgfomicpbfaa.Q
namespace Go.Proofs.Ytcffgfomicpbfaa.Pure
open Go Go.RowKit Go.Proofs.Ytcffgfomicpbfaa.P Go.Proofs.YtcffgfomicpbfaaW.PrintWords Go.Proofs.YtcffgfomicpbfaaW.PrintLast Go.Proofs.YtcffgfomicpbfaaW.PrintMore Go.Proofs.Ytcffgfomicpbfaa.Q
theorem shl_zero {j : Int} : shl .i64 0 j = 0 := by
  unfold shl
  simp
  try decide
theorem joined_len (m : List Int) (v u : Int) : (joined m v u).length = m.length := by simp [joined]
theorem both_l0 {n N : Int} (l : List Int) (n1 : 1 ≤ n) (hN : n + 1 = N) (N2 : N ≤ 62) (d : Nat) : ∀ (v : Int) (m : List Int), 0 ≤ v → v ≤ n → n - v = d → (m.length : Int) = N → ∃ r, (r.length : Int) = N ∧ Ev (fun k => spec_ConeOf.l0 k v n l N m) (N, r, 0) ∧ Ev (fun k => impl_ConeOf.l0 k n v N m) (N, r, 0) := by
  induction d with
  | zero =>
    intro v m v0 v1 hd hm
    refine ⟨m, hm, ev_k ?_, ev_k ?_⟩
    · simp only [spec_ConeOf.l0]
      exact ev_neg (by omega) (Ev.now _)
    · simp only [impl_ConeOf.l0]
      exact ev_neg (by omega) (Ev.now _)
  | succ d ih =>
    intro v m v0 v1 hd hm
    have j1 := joined_len m v n
    obtain ⟨r, hr, hs, hi⟩ := ih (v + 1) (joined m v n) (by omega) (by omega) (by omega) (by omega)
    refine ⟨r, hr, ev_k ?_, ev_k ?_⟩
    · simp only [spec_ConeOf.l0]
      rw [w64 (a := v + 1) (by omega) (by omega)]
      exact ev_pos (by omega) (ev_bind0 (s_put N m v n v0 (by omega) (by omega) (by omega) (by omega)) hs)
    · simp only [impl_ConeOf.l0]
      rw [w64 (a := v + 1) (by omega) (by omega)]
      exact ev_pos (by omega) (ev_bind0 (i_put N m v n v0 (by omega) (by omega) (by omega) (by omega)) hi)
theorem s_beside {n : Int} {l : List Int} (n1 : 1 ≤ n) (n2 : n ≤ 61) (hl : (l.length : Int) = n) : Ev (fun k => spec_l01Beside.f k n l 1 [0]) (n + 1, l ++ [0]) := by
  unfold spec_l01Beside.f
  have ho : spec_l01Own.f l = some l := by
    unfold spec_l01Own.f
    simp only [Option.bind_some, List.nil_append]
    rw [if_pos (by simp; omega)]
  refine ev_bind0 ho (ev_k ?_)
  simp only [spec_l01Beside.l0]
  rw [wu64 (a := n) (by omega) (by omega), w64 (a := n + 1) (by omega) (by omega)]
  refine ev_pos (by omega) (ev_pos (by omega) (ev_pos (by simp) (ev_pos (by omega) (ev_pos (by omega) (ev_k ?_)))))
  simp only [spec_l01Beside.l0]
  refine ev_neg (by simp [wrap64]) (ev_some ?_)
  rw [show rd [0] 0 = 0 from rfl, shl_zero]
theorem both (n : Int) (l : List Int) : ∃ m r q, r.length ≤ 1048576 ∧ Ev (fun k => spec_ConeOf.f k n l) (m, r, q) ∧ Ev (fun k => impl_ConeOf.f k n l) (m, r, q) := by
  unfold spec_ConeOf.f impl_ConeOf.f
  by_cases hg : isG n l
  · have n1 := hg.1.1
    have n2 := hg.1.2.1
    have hl := hg.1.2.2.1
    by_cases hc : 1 ≤ n + 1 ∧ n + 1 ≤ 62
    · obtain ⟨r, hr, h1, h2⟩ := both_l0 (N := n + 1) l n1 rfl hc.2 n.toNat 0 (l ++ [0]) (by omega) (by omega) (by omega) (by simp; omega)
      refine ⟨n + 1, r, 0, by omega, Ev.bind (s_code9_yes hg) (ev_pos rfl ?_), Ev.bind ((i_is n l).yes hg) (ev_pos rfl ?_)⟩
      · rw [w64 (a := n + 1) (by omega) (by omega)]
        exact ev_bind0 (s_told_yes hc) (ev_pos rfl (ev_bind0 (s_empty 1 (by omega) (by omega)) (Ev.bind (s_beside n1 (by omega) hl) h1)))
      · rw [w64 (a := n + 1) (by omega) (by omega)]
        refine ev_bind0 (i_limited_yes hc) (ev_pos rfl (ev_bind0 (i_empty (n + 1) (by omega) hc.2) (ev_pos ⟨by omega, by simp; omega⟩ ?_)))
        rw [show (List.replicate (n + 1).toNat (0 : Int)).drop l.length = [0] by
          rw [List.drop_replicate, show (n + 1).toNat - l.length = 1 by omega]
          rfl]
        exact h2
    · refine ⟨0, [], 3, by simp, Ev.bind (s_code9_yes hg) (ev_pos rfl ?_), Ev.bind ((i_is n l).yes hg) (ev_pos rfl ?_)⟩
      · rw [w64 (a := n + 1) (by omega) (by omega)]
        exact ev_bind0 (s_told_no hc) (ev_neg (by decide) (Ev.now _))
      · rw [w64 (a := n + 1) (by omega) (by omega)]
        exact ev_bind0 (i_limited_no hc) (ev_neg (by decide) (Ev.now _))
  · exact ⟨0, [], 1, by simp, Ev.bind (s_code9_no hg) (ev_neg (by decide) (Ev.now _)), Ev.bind ((i_is n l).no hg) (ev_neg (by decide) (Ev.now _))⟩
theorem FnExactConeOf : ∀ (a0_0 : Int) (l0_1 : List Int), (Lit.int .i64 a0_0).wf = true → l0_1.length ≤ maxLen → (∀ x ∈ l0_1, (Lit.int .i64 x).wf = true) → ∃ k, laws_FnExactConeOf.f k a0_0 l0_1 = some true := by
  intro n l _ hl _
  refine Ev.rounds ?_
  unfold laws_FnExactConeOf.f
  rw [szG n l hl]
  simp only [Option.bind_some]
  by_cases hs : l.length ≤ 1048576
  · rw [if_pos hs]
    refine ev_neg (by omega) ?_
    obtain ⟨m, r, q, hr, h1, h2⟩ := both n l
    refine Ev.bind (toG n l hs) (Ev.bind h1 (Ev.bind (toG n l hs) (Ev.bind h2 (Ev.bind (eqG m r hr) (ev_pos rfl ?_)))))
    refine ev_k ?_
    simp only [laws_FnExactConeOf.j0]
    refine ev_neg (by simp) (Ev.bind (toG n l hs) (Ev.bind (eqG n l hs) (ev_pos rfl (Ev.bind (markG n l hs) (ev_neg (by simp only []; omega) (Ev.bind (eqG m r hr) (ev_pos rfl ?_)))))))
    refine ev_k ?_
    simp only [laws_FnExactConeOf.j1]
    refine ev_neg (by simp) (Ev.bind (markG m r hr) (Ev.bind (heldG m r.length hr) (ev_neg (by omega) (ev_pos rfl ?_))))
    refine Ev.bind (toG n l hs) (Ev.bind h2 (Ev.bind (eqG m r hr) (ev_pos rfl ?_)))
    refine ev_k ?_
    simp only [laws_FnExactConeOf.j2]
    exact ev_neg (by simp) (Ev.bind (heldG m r.length hr) (ev_neg (by omega) (ev_pos rfl (Ev.now _))))
  · rw [if_neg hs]
    exact ev_pos (by decide) (Ev.now _)
end Go.Proofs.Ytcffgfomicpbfaa.Pure
