/- The pure law and what it leans on, in one text (wip/bin/bundle). -/
import Derived.Test.YtcffgfomicpbfaaDoorP24
import Derived.Test.YtcffgfomicpbfaaDoorP26
import Derived.Test.YtcffgfomicpbfaaDoorP27
import Derived.Test.YtcffgfomicpbfaaDoorP15
import Derived.Test.YtcffgfomicpbfaaDoorP16
import Derived.Test.YtcffgfomicpbfaaDoorP25
import Derived.Test.YtcffgfomicpbfaaDoorP4
import Derived.Test.YtcffgfomicpbfaaDoorP6
import Derived.Test.YtcffgfomicpbfaaDoorP7
import Derived.Test.YtcffgfomicpbfaaDoorWA
import Derived.Test.YtcffgfomicpbfaaDoorWBMore
import Derived.Laws.BitsLemmas
import Derived.Test.YtcffgfomicpbfaaDoorP11
import Derived.Test.YtcffgfomicpbfaaDoorP2
import Derived.Test.YtcffgfomicpbfaaDoorP3
import Derived.Test.YtcffgfomicpbfaaDoorP14
import Derived.Test.YtcffgfomicpbfaaDoorP5
import Derived.Test.YtcffgfomicpbfaaDoorP12
import Derived.Test.YtcffgfomicpbfaaDoorP13
import Derived.Lib.TrailingZeros
import Derived.Test.YtcffgfomicpbfaaDoorP1
import Derived.Test.YtcffgfomicpbfaaDoorP10
import Derived.Test.YtcffgfomicpbfaaDoorP19
import Derived.Test.YtcffgfomicpbfaaDoorP20
import Derived.Test.YtcffgfomicpbfaaDoorP22
import Derived.Test.YtcffgfomicpbfaaDoorP18
import Derived.Test.YtcffgfomicpbfaaDoorP21
import Derived.Test.YtcffgfomicpbfaaDoorP9
namespace Go.Proofs.YtcffgfomicpbfaaDoor.Q
open Go Go.RowKit Go.Proofs.YtcffgfomicpbfaaDoorW.PrintWords Go.Proofs.YtcffgfomicpbfaaDoorW.PrintMore
theorem ev_k {α : Type} {g : Nat → Option α} {r : α} (h : Ev (fun k => g (k + 1)) r) : Ev g r := Ev.step (fun _ => rfl) h
theorem ev_some {α : Type} {r s : α} (h : r = s) : Ev (fun _ => some r) s := h ▸ Ev.now r
theorem ev_pos {α : Type} {c : Prop} [Decidable c] {f g : Nat → Option α} {r : α} (h : c) (H : Ev f r) : Ev (fun k => if c then f k else g k) r :=
  Ev.congr (fun _ => if_pos h) H
theorem ev_neg {α : Type} {c : Prop} [Decidable c] {f g : Nat → Option α} {r : α} (h : ¬ c) (H : Ev g r) : Ev (fun k => if c then f k else g k) r :=
  Ev.congr (fun _ => if_neg h) H
theorem ev_of {α : Type} {o : Option α} {r : α} (h : o = some r) : Ev (fun _ => o) r := ⟨0, fun _ _ => h⟩
theorem ev_bind0 {α β : Type} {o : Option α} {f : Nat → α → Option β} {a : α} {r : β} (h : o = some a) (H : Ev (fun n => f n a) r) : Ev (fun n => o.bind (f n)) r :=
  Ev.bind (ev_of h) H
theorem w64 {a : Int} (h0 : -9223372036854775808 ≤ a) (h1 : a < 9223372036854775808) : wrap64 a = a := by
  unfold wrap64
  omega
def Says (g : Nat → Option Bool) (P : Prop) : Prop := ∃ b : Bool, Ev g b ∧ (b = true ↔ P)
theorem says_iff {g : Nat → Option Bool} {P R : Prop} (h : P ↔ R) (H : Says g R) : Says g P := by
  obtain ⟨b, hb, e⟩ := H
  exact ⟨b, hb, e.trans h.symm⟩
theorem says_k {g : Nat → Option Bool} {P : Prop} (H : Says (fun k => g (k + 1)) P) : Says g P := by
  obtain ⟨b, hb, e⟩ := H
  exact ⟨b, ev_k hb, e⟩
theorem says_pos {c : Prop} [Decidable c] {f g : Nat → Option Bool} {P : Prop} (h : c) (H : Says f P) : Says (fun k => if c then f k else g k) P := by
  obtain ⟨b, hb, e⟩ := H
  exact ⟨b, ev_pos h hb, e⟩
theorem says_neg {c : Prop} [Decidable c] {f g : Nat → Option Bool} {P : Prop} (h : ¬ c) (H : Says g P) : Says (fun k => if c then f k else g k) P := by
  obtain ⟨b, hb, e⟩ := H
  exact ⟨b, ev_neg h hb, e⟩
theorem says_true {P : Prop} (h : P) : Says (fun _ => some true) P := ⟨true, Ev.now _, by simp [h]⟩
theorem says_false {P : Prop} (h : ¬ P) : Says (fun _ => some false) P := ⟨false, Ev.now _, by simp [h]⟩
theorem Says.yes {g : Nat → Option Bool} {P : Prop} (H : Says g P) (h : P) : Ev g true := by
  obtain ⟨b, hb, e⟩ := H
  rw [e.2 h] at hb
  exact hb
theorem Says.no {g : Nat → Option Bool} {P : Prop} (H : Says g P) (h : ¬ P) : Ev g false := by
  obtain ⟨b, hb, e⟩ := H
  cases b with
  | true => exact absurd (e.1 rfl) h
  | false => exact hb
end Go.Proofs.YtcffgfomicpbfaaDoor.Q
namespace Go.Proofs.YtcffgfomicpbfaaDoor.Q
open Go Go.RowKit Go.Proofs.YtcffgfomicpbfaaDoorW.PrintWords Go.Proofs.YtcffgfomicpbfaaDoorW.PrintLast Go.Proofs.YtcffgfomicpbfaaDoorW.PrintMore
def tb (x i : Int) : Bool := decide (x / 2 ^ i.toNat % 2 = 1)
theorem wu64 {a : Int} (h0 : 0 ≤ a) (h1 : a < 18446744073709551616) : IntKind.u64.wrap a = a := by
  simp [IntKind.wrap, IntKind.bits, IntKind.signed]
  omega
theorem w64' (a : Int) : IntKind.i64.wrap a = wrap64 a := by
  rw [IntKind.wrap_i64]
  unfold wrap64
  rfl
theorem and_one (a : Int) : bits .and .i64 a 1 = a % 2 := by
  have e : (BitVec.ofInt 64 a &&& BitVec.ofInt 64 1).toNat = (a % 2).toNat := by
    rw [BitVec.toNat_and, show (BitVec.ofInt 64 1).toNat = 1 from rfl, Nat.and_one_is_mod, BitVec.toNat_ofInt]
    omega
  show IntKind.i64.wrap (((BitVec.ofInt 64 a &&& BitVec.ofInt 64 1).toNat : Nat) : Int) = a % 2
  rw [e, w64']
  rw [w64] <;> omega
theorem shr_at {x i : Int} (i0 : 0 ≤ i) (i1 : i ≤ 63) : shr .i64 x i = x / 2 ^ i.toNat := by
  unfold shr
  rw [Nat.min_eq_left (by simp [IntKind.bits]; omega)]
theorem bit_at {x i : Int} (i0 : 0 ≤ i) (i1 : i ≤ 63) : bits .and .i64 (shr .i64 x i) 1 = if tb x i then 1 else 0 := by
  rw [and_one, shr_at i0 i1]
  unfold tb
  have := Int.emod_two_eq (x / 2 ^ i.toNat)
  rcases this with h | h <;> simp [h]
theorem bit_is {x i : Int} (i0 : 0 ≤ i) (i1 : i ≤ 63) : (bits .and .i64 (shr .i64 x i) 1 == 1) = tb x i := by
  rw [bit_at i0 i1]
  cases tb x i <;> rfl
theorem bit_eq {x y i j : Int} (i0 : 0 ≤ i) (i1 : i ≤ 63) (j0 : 0 ≤ j) (j1 : j ≤ 63) : bits .and .i64 (shr .i64 x i) 1 = bits .and .i64 (shr .i64 y j) 1 ↔ tb x i = tb y j := by
  rw [bit_at i0 i1, bit_at j0 j1]
  cases tb x i <;> cases tb y j <;> simp
theorem two_pow_le {n : Int} (h0 : 0 ≤ n) (h1 : n ≤ 62) : (1 : Int) ≤ 2 ^ n.toNat ∧ (2 : Int) ^ n.toNat ≤ 4611686018427387904 := by
  have e : ((2 : Int) ^ n.toNat) = ((2 ^ n.toNat : Nat) : Int) := by simp
  have a : 2 ^ n.toNat ≤ 2 ^ 62 := Nat.pow_le_pow_right (by decide) (by omega)
  have b : 1 ≤ 2 ^ n.toNat := Nat.one_le_two_pow
  rw [e]
  omega
theorem shl_one {n : Int} (h0 : 0 ≤ n) (h1 : n ≤ 62) : shl .i64 1 n = 2 ^ n.toNat := by
  have := two_pow_le h0 h1
  unfold shl
  rw [Nat.min_eq_left (by simp [IntKind.bits]; omega), Int.one_mul, w64', w64] <;> omega
theorem tb_nat (x i : Nat) : tb (x : Int) (i : Int) = x.testBit i := by
  unfold tb
  rw [Nat.testBit_eq_decide_div_mod_eq]
  have : ((x : Int) / 2 ^ i) % 2 = ((x / 2 ^ i % 2 : Nat) : Int) := by simp
  rw [Int.toNat_natCast, this]
  exact decide_eq_decide.2 (by omega)
theorem tb_toNat {x i : Int} (h0 : 0 ≤ x) (i0 : 0 ≤ i) : tb x i = x.toNat.testBit i.toNat := by
  rw [← tb_nat, Int.toNat_of_nonneg h0, Int.toNat_of_nonneg i0]
theorem tb_high {x i n : Int} (h0 : 0 ≤ x) (h1 : x < 2 ^ n.toNat) (n0 : 0 ≤ n) (hi : n ≤ i) : tb x i = false := by
  rw [tb_toNat h0 (by omega)]
  refine Nat.testBit_lt_two_pow ?_
  have e : ((2 : Int) ^ n.toNat) = ((2 ^ n.toNat : Nat) : Int) := by simp
  rw [e] at h1
  have : x.toNat < 2 ^ n.toNat := by omega
  exact Nat.lt_of_lt_of_le this (Nat.pow_le_pow_right (by decide) (by omega))
theorem tb_ext {x y n : Int} (x0 : 0 ≤ x) (x1 : x < 2 ^ n.toNat) (y0 : 0 ≤ y) (y1 : y < 2 ^ n.toNat) (n0 : 0 ≤ n) (h : ∀ i, 0 ≤ i → i < n → tb x i = tb y i) : x = y := by
  have : x.toNat = y.toNat := by
    refine Nat.eq_of_testBit_eq fun i => ?_
    by_cases hi : (i : Int) < n
    · have := h i (by omega) hi
      rwa [tb_toNat x0 (by omega), tb_toNat y0 (by omega), Int.toNat_natCast] at this
    · have a := tb_high (i := i) x0 x1 n0 (by omega)
      have b := tb_high (i := i) y0 y1 n0 (by omega)
      rw [tb_toNat x0 (by omega), Int.toNat_natCast] at a
      rw [tb_toNat y0 (by omega), Int.toNat_natCast] at b
      rw [a, b]
  omega
theorem and_nat (a b : Nat) (ha : a < 2 ^ 63) (hb : b < 2 ^ 63) : bits .and .i64 a b = ((a &&& b : Nat) : Int) :=
  (bits_nat .i64 63 (by decide) (fun n h0 h1 => by rw [w64', w64] <;> omega) a b ha hb).1
theorem or_nat (a b : Nat) (ha : a < 2 ^ 63) (hb : b < 2 ^ 63) : bits .or .i64 a b = ((a ||| b : Nat) : Int) :=
  (bits_nat .i64 63 (by decide) (fun n h0 h1 => by rw [w64', w64] <;> omega) a b ha hb).2
end Go.Proofs.YtcffgfomicpbfaaDoor.Q
namespace Go.Proofs.YtcffgfomicpbfaaDoor.Q
open Go Go.RowKit Go.Proofs.YtcffgfomicpbfaaDoorW.PrintWords
def rows (n : Int) (l : List Int) : Prop := 1 ≤ n ∧ n ≤ 62 ∧ (l.length : Int) = n ∧ ∀ v, 0 ≤ v → v < n → 0 ≤ rd l v ∧ rd l v < 2 ^ n.toNat
def isG (n : Int) (l : List Int) : Prop := rows n l ∧ (∀ v, 0 ≤ v → v < n → tb (rd l v) v = false) ∧ ∀ v w, 0 ≤ v → v < n → 0 ≤ w → w < n → tb (rd l v) w = tb (rd l w) v
end Go.Proofs.YtcffgfomicpbfaaDoor.Q
namespace Go.Proofs.YtcffgfomicpbfaaDoor.Q
open Go Go.RowKit Go.Proofs.YtcffgfomicpbfaaDoorW.PrintWords Go.Proofs.YtcffgfomicpbfaaDoorW.PrintMore
def Mx (n : Int) (l : List Int) (P : Int → Int → Prop) : Prop := (l.length : Int) = n ∧ ∀ v, 0 ≤ v → v < n → (0 ≤ rd l v ∧ rd l v < 2 ^ n.toNat) ∧ ∀ w, 0 ≤ w → w < n → (tb (rd l v) w = true ↔ P v w)
theorem Mx.imp {n : Int} {l : List Int} {P Q : Int → Int → Prop} (h : Mx n l P) (e : ∀ v w, 0 ≤ v → v < n → 0 ≤ w → w < n → (P v w ↔ Q v w)) : Mx n l Q :=
  ⟨h.1, fun v v0 v1 => ⟨(h.2 v v0 v1).1, fun w w0 w1 => ((h.2 v v0 v1).2 w w0 w1).trans (e v w v0 v1 w0 w1)⟩⟩
theorem rd_ext {a b : List Int} (hl : a.length = b.length) (h : ∀ v : Int, 0 ≤ v → v < a.length → rd a v = rd b v) : a = b := by
  refine List.ext_getElem hl fun i h1 h2 => ?_
  have := h i (by omega) (by omega)
  simpa [rd, List.getD_eq_getElem?_getD, h1, h2] using this
theorem Mx.eq {n : Int} {a b : List Int} {P : Int → Int → Prop} (ha : Mx n a P) (hb : Mx n b P) (n0 : 0 ≤ n) : a = b := by
  refine rd_ext (by have := ha.1; have := hb.1; omega) fun v v0 v1 => ?_
  have v1 : v < n := by have := ha.1; omega
  obtain ⟨⟨a0, a1⟩, a2⟩ := ha.2 v v0 v1
  obtain ⟨⟨b0, b1⟩, b2⟩ := hb.2 v v0 v1
  exact tb_ext a0 a1 b0 b1 n0 fun i i0 i1 => Bool.eq_iff_iff.2 ((a2 i i0 i1).trans (b2 i i0 i1).symm)
theorem Mx.zero (n : Int) (n0 : 0 ≤ n) : Mx n (List.replicate n.toNat 0) (fun _ _ => False) := by
  refine ⟨by simp; omega, fun v v0 v1 => ?_⟩
  have e : rd (List.replicate n.toNat 0) v = 0 := by
    have : v.toNat < n.toNat := by omega
    simp [rd, List.getD_eq_getElem?_getD, this]
  rw [e]
  have p : (0 : Int) < 2 ^ n.toNat := Int.pow_pos (by decide)
  refine ⟨⟨by omega, p⟩, fun w w0 w1 => ?_⟩
  simp [tb]
theorem Mx.rows {n : Int} {l : List Int} {P : Int → Int → Prop} (h : Mx n l P) (n1 : 1 ≤ n) (n2 : n ≤ 62) : rows n l := ⟨n1, n2, h.1, fun v v0 v1 => (h.2 v v0 v1).1⟩
theorem rd_set {l : List Int} {i j : Int} (x : Int) (i0 : 0 ≤ i) (i1 : i < l.length) (j0 : 0 ≤ j) : rd (l.set i.toNat x) j = if j = i then x else rd l j := by
  simp only [rd, List.getD_eq_getElem?_getD, List.getElem?_set]
  by_cases h : j = i
  · subst h
    rw [if_pos rfl, if_pos rfl, if_pos (by omega)]
    rfl
  · rw [if_neg h, if_neg (by omega)]
theorem or_one {n x j : Int} (n2 : n ≤ 62) (x0 : 0 ≤ x) (x1 : x < 2 ^ n.toNat) (j0 : 0 ≤ j) (j1 : j < n) : (0 ≤ bits .or .i64 x (shl .i64 1 j) ∧ bits .or .i64 x (shl .i64 1 j) < 2 ^ n.toNat) ∧ ∀ w, 0 ≤ w → (tb (bits .or .i64 x (shl .i64 1 j)) w = true ↔ tb x w = true ∨ w = j) := by
  have e : ((2 : Int) ^ n.toNat) = ((2 ^ n.toNat : Nat) : Int) := by simp
  have p : 2 ^ n.toNat ≤ 2 ^ 62 := Nat.pow_le_pow_right (by decide) (by omega)
  have q : 2 ^ j.toNat < 2 ^ n.toNat := Nat.pow_lt_pow_right (by decide) (by omega)
  rw [e] at x1 ⊢
  obtain ⟨y, rfl⟩ := Int.eq_ofNat_of_zero_le x0
  rw [shl_one j0 (by omega), show ((2 : Int) ^ j.toNat) = ((2 ^ j.toNat : Nat) : Int) by simp, or_nat y (2 ^ j.toNat) (by omega) (by omega)]
  refine ⟨⟨by omega, ?_⟩, fun w w0 => ?_⟩
  · have := Nat.or_lt_two_pow (show y < 2 ^ n.toNat by omega) q
    omega
  · obtain ⟨w, rfl⟩ := Int.eq_ofNat_of_zero_le w0
    rw [tb_nat, tb_nat, Nat.testBit_or, Nat.testBit_two_pow]
    simp only [Bool.or_eq_true, decide_eq_true_eq]
    refine or_congr Iff.rfl ?_
    omega
theorem Mx.or {n : Int} {l : List Int} {P : Int → Int → Prop} (h : Mx n l P) (n2 : n ≤ 62) {i j : Int} (i0 : 0 ≤ i) (i1 : i < n) (j0 : 0 ≤ j) (j1 : j < n) : Mx n (l.set i.toNat (bits .or .i64 (rd l i) (shl .i64 1 j))) (fun v w => P v w ∨ (v = i ∧ w = j)) := by
  refine ⟨by simpa using h.1, fun v v0 v1 => ?_⟩
  rw [rd_set _ i0 (by have := h.1; omega) v0]
  obtain ⟨⟨a0, a1⟩, a2⟩ := h.2 v v0 v1
  by_cases hv : v = i
  · rw [if_pos hv]
    subst hv
    obtain ⟨b, b2⟩ := or_one n2 a0 a1 j0 j1
    exact ⟨b, fun w w0 w1 => (b2 w w0).trans (or_congr (a2 w w0 w1) (by simp))⟩
  · rw [if_neg hv]
    exact ⟨⟨a0, a1⟩, fun w w0 w1 => (a2 w w0 w1).trans (by simp [hv])⟩
end Go.Proofs.YtcffgfomicpbfaaDoor.Q
namespace Go.Proofs.YtcffgfomicpbfaaDoor.Q
open Go Go.RowKit Go.Proofs.YtcffgfomicpbfaaDoor.P Go.Proofs.YtcffgfomicpbfaaDoorW.PrintWords Go.Proofs.YtcffgfomicpbfaaDoorW.PrintMore
def joined (m : List Int) (v u : Int) : List Int :=
  let y := m.set v.toNat (bits .or .i64 (rd m v) (shl .i64 1 u))
  y.set u.toNat (bits .or .i64 (rd y u) (shl .i64 1 v))
theorem Mx.joined {n : Int} {m : List Int} {P : Int → Int → Prop} (h : Mx n m P) (n2 : n ≤ 62) {v u : Int} (v0 : 0 ≤ v) (v1 : v < n) (u0 : 0 ≤ u) (u1 : u < n) : Mx n (joined m v u) (fun a b => P a b ∨ (a = v ∧ b = u) ∨ (a = u ∧ b = v)) :=
  ((h.or n2 v0 v1 u0 u1).or n2 u0 u1 v0 v1).imp fun a b _ _ _ _ => ⟨fun z => by rcases z with (z | z) | z; exact .inl z; exact .inr (.inl z); exact .inr (.inr z), fun z => by rcases z with z | z | z; exact .inl (.inl z); exact .inl (.inr z); exact .inr z⟩
theorem s_put (n : Int) (m : List Int) (v u : Int) (v0 : 0 ≤ v) (v1 : v < m.length) (u0 : 0 ≤ u) (u1 : u < m.length) (hm : m.length ≤ 62) : spec_l01Put.f n m v u = some (joined m v u) := by
  unfold spec_l01Put.f joined
  rw [wu64 v0 (by omega), wu64 u0 (by omega), if_pos v0, if_pos v1, if_pos u0]
  simp only [Option.bind_some]
  rw [if_pos u0, if_pos u1, if_pos v0]
theorem i_put (n : Int) (m : List Int) (v u : Int) (v0 : 0 ≤ v) (v1 : v < m.length) (u0 : 0 ≤ u) (u1 : u < m.length) (e : v ≠ u) : impl_Graph_put.f n m v u = some (joined m v u) := by
  unfold impl_Graph_put.f joined
  rw [if_neg e, if_pos v0, if_pos v1, if_pos u0]
  simp only [Option.bind_some]
  rw [if_pos u1]
theorem s_empty (n : Int) (n0 : 0 ≤ n) (n2 : n ≤ 62) : spec_l01Empty.f n = some (n, List.replicate n.toNat 0) := by
  unfold spec_l01Empty.f
  rw [if_pos n0, if_pos (by omega)]
theorem i_empty (n : Int) (n0 : 0 ≤ n) (n2 : n ≤ 62) : impl_empty.f n = some (n, List.replicate n.toNat 0) := by
  unfold impl_empty.f
  rw [if_pos n0, if_pos (by omega)]
end Go.Proofs.YtcffgfomicpbfaaDoor.Q
namespace Go.Proofs.YtcffgfomicpbfaaDoor.Q
open Go Go.RowKit Go.Proofs.YtcffgfomicpbfaaDoor.P
theorem s_in (a b c : Int) : spec_l01In.f a b c = some (decide (b ≤ a ∧ a ≤ c)) := by
  unfold spec_l01In.f
  split
  · exact congrArg some (decide_eq_decide.2 (by omega))
  · exact congrArg some (decide_eq_false (by omega)).symm
end Go.Proofs.YtcffgfomicpbfaaDoor.Q
namespace Go.Proofs.YtcffgfomicpbfaaDoor.Q
open Go Go.RowKit
end Go.Proofs.YtcffgfomicpbfaaDoor.Q
namespace Go.Proofs.YtcffgfomicpbfaaDoor.Q
open Go Go.RowKit Go.Proofs.YtcffgfomicpbfaaDoor.P Go.Proofs.YtcffgfomicpbfaaDoorW.PrintWords Go.Proofs.YtcffgfomicpbfaaDoorW.PrintMore
set_option linter.unusedVariables false
theorem s_has (n : Int) (l : List Int) (v w : Int) (v0 : 0 ≤ v) (v1 : v < l.length) (w0 : 0 ≤ w) (w1 : w ≤ 63) : spec_l01Has.f n l v w = some (tb (rd l v) w) := by
  unfold spec_l01Has.f
  rw [if_pos v0, if_pos v1, wu64 w0 (by omega), if_pos w0, bit_is w0 w1]
section
variable {n : Int} {l : List Int} (n1 : 1 ≤ n) (n2 : n ≤ 62) (hn : (l.length : Int) = n)
include n1 n2 hn
theorem s_is_l1 (d : Nat) : ∀ v : Int, 0 ≤ v → v ≤ n → n - v = d → Says (fun k => spec_l01Is.l1 k v n l) (∀ a, v ≤ a → a < n → ∀ b, 0 ≤ b → b < a → tb (rd l a) b = tb (rd l b) a) := by
  induction d with
  | zero =>
    intro v v0 v1 hd
    refine says_k ?_
    simp only [spec_l01Is.l1]
    exact says_neg (by omega) (says_true fun a _ _ => by omega)
  | succ d ih =>
    intro v v0 v1 hd
    have hv : v < n := by omega
    have inner : ∀ (e : Nat) (w : Int), 0 ≤ w → w ≤ v → v - w = e → Says (fun k => spec_l01Is.l2 k v w n l) ((∀ b, w ≤ b → b < v → tb (rd l v) b = tb (rd l b) v) ∧ ∀ a, v + 1 ≤ a → a < n → ∀ b, 0 ≤ b → b < a → tb (rd l a) b = tb (rd l b) a) := by
      intro e
      induction e with
      | zero =>
        intro w w0 w1 he
        refine says_k ?_
        simp only [spec_l01Is.l2]
        refine says_neg (by omega) ?_
        rw [w64 (a := v + 1) (by omega) (by omega)]
        exact says_iff ⟨fun h => h.2, fun h => ⟨fun b _ _ => by omega, h⟩⟩ (ih (v + 1) (by omega) (by omega) (by omega))
      | succ e ihe =>
        intro w w0 w1 he
        refine says_k ?_
        simp only [spec_l01Is.l2]
        refine says_pos (by omega) ?_
        rw [s_has n l v w v0 (by omega) w0 (by omega), s_has n l w v w0 (by omega) v0 (by omega)]
        simp only [Option.bind_some]
        by_cases h : tb (rd l v) w = tb (rd l w) v
        · refine says_neg (by simp [h]) ?_
          rw [w64 (a := w + 1) (by omega) (by omega)]
          exact says_iff ⟨fun z => ⟨fun b b0 b1 => z.1 b (by omega) b1, z.2⟩, fun z => ⟨fun b b0 b1 => if hb : b = w then by rw [hb]; exact h else z.1 b (by omega) b1, z.2⟩⟩ (ihe (w + 1) (by omega) (by omega) (by omega))
        · exact says_pos (by simp [h]) (says_false fun z => h (z.1 w (by omega) (by omega)))
    refine says_k ?_
    simp only [spec_l01Is.l1]
    exact says_pos hv (says_iff ⟨fun z => ⟨fun b b0 b1 => z v (by omega) hv b b0 b1, fun a a0 a1 => z a (by omega) a1⟩, fun z a a0 a1 b b0 b1 => if ha : a = v then by subst ha; exact z.1 b b0 b1 else z.2 a (by omega) a1 b b0 b1⟩ (inner v.toNat 0 (by omega) (by omega) (by omega)))
theorem s_is_l0 (d : Nat) : ∀ v : Int, 0 ≤ v → v ≤ n → n - v = d → Says (fun k => spec_l01Is.l0 k v n l) ((∀ a, v ≤ a → a < n → (0 ≤ rd l a ∧ rd l a < 2 ^ n.toNat) ∧ tb (rd l a) a = false) ∧ ∀ a, 0 ≤ a → a < n → ∀ b, 0 ≤ b → b < a → tb (rd l a) b = tb (rd l b) a) := by
  have hp := two_pow_le (n := n) (by omega) n2
  induction d with
  | zero =>
    intro v v0 v1 hd
    refine says_k ?_
    simp only [spec_l01Is.l0]
    exact says_neg (by omega) (says_iff ⟨fun h => h.2, fun h => ⟨fun a _ _ => by omega, h⟩⟩ (s_is_l1 n1 n2 hn n.toNat 0 (by omega) (by omega) (by omega)))
  | succ d ih =>
    intro v v0 v1 hd
    refine says_k ?_
    simp only [spec_l01Is.l0]
    rw [wu64 (a := n) (by omega) (by omega), shl_one (by omega) n2, w64 (a := 2 ^ n.toNat - 1) (by omega) (by omega)]
    refine says_pos (by omega) (says_pos v0 (says_pos (by omega) (says_pos (by omega) ?_)))
    rw [s_in, s_has n l v v v0 (by omega) v0 (by omega)]
    simp only [Option.bind_some]
    by_cases h : 0 ≤ rd l v ∧ rd l v ≤ 2 ^ n.toNat - 1
    · refine says_pos (decide_eq_true h) ?_
      by_cases ht : tb (rd l v) v = true
      · exact says_pos ht (says_false fun z => by have := (z.1 v (by omega) (by omega)).2; rw [ht] at this; cases this)
      · refine says_neg ht ?_
        rw [w64 (a := v + 1) (by omega) (by omega)]
        refine says_iff ⟨fun z => ⟨fun a a0 a1 => z.1 a (by omega) a1, z.2⟩, fun z => ⟨fun a a0 a1 => if ha : a = v then ?_ else z.1 a (by omega) a1, z.2⟩⟩ (ih (v + 1) (by omega) (by omega) (by omega))
        subst ha
        exact ⟨by omega, by simpa using ht⟩
    · exact says_neg (by simpa using h) (says_false fun z => h (by have := (z.1 v (by omega) (by omega)).1; omega))
theorem i_is_l1 (v : Int) (v0 : 0 ≤ v) (v1 : v < n) (x : Int) (y3 y4 : Int) (y5 : List Int) (P : Prop) (hc : Says (fun k => impl_IsGraph.l0 k n y5 y3 (wrap64 (y4 + 1)) n l) P) (d : Nat) : ∀ w : Int, 0 ≤ w → w ≤ n → n - w = d →
    Says (fun k => impl_IsGraph.l1 k n v x y5 y3 y4 n w n l) ((∀ b, w ≤ b → b < n → tb x b = tb (rd l b) v) ∧ P) := by
  induction d with
  | zero =>
    intro w w0 w1 hd
    refine says_k ?_
    simp only [impl_IsGraph.l1]
    exact says_neg (by omega) (says_iff ⟨fun h => h.2, fun h => ⟨fun b _ _ => by omega, h⟩⟩ hc)
  | succ d ih =>
    intro w w0 w1 hd
    refine says_k ?_
    simp only [impl_IsGraph.l1]
    refine says_pos (by omega) (says_pos w0 (says_pos (by omega) (says_pos v0 ?_)))
    by_cases h : tb x w = tb (rd l w) v
    · refine says_pos ((bit_eq w0 (by omega) v0 (by omega)).2 h) ?_
      rw [w64 (a := w + 1) (by omega) (by omega)]
      exact says_iff ⟨fun z => ⟨fun b b0 b1 => z.1 b (by omega) b1, z.2⟩, fun z => ⟨fun b b0 b1 => if hb : b = w then by rw [hb]; exact h else z.1 b (by omega) b1, z.2⟩⟩ (ih (w + 1) (by omega) (by omega) (by omega))
    · exact says_neg (fun z => h ((bit_eq w0 (by omega) v0 (by omega)).1 z)) (says_false fun z => h (z.1 w (by omega) (by omega)))
theorem i_is_l0 (d : Nat) : ∀ v : Int, 0 ≤ v → v ≤ n → n - v = d → Says (fun k => impl_IsGraph.l0 k n l n v n l) (∀ a, v ≤ a → a < n → ((0 ≤ rd l a ∧ rd l a < 2 ^ n.toNat) ∧ tb (rd l a) a = false) ∧ ∀ b, 0 ≤ b → b < n → tb (rd l a) b = tb (rd l b) a) := by
  induction d with
  | zero =>
    intro v v0 v1 hd
    refine says_k ?_
    simp only [impl_IsGraph.l0]
    exact says_neg (by omega) (says_true fun a _ _ => by omega)
  | succ d ih =>
    intro v v0 v1 hd
    have hv : v < n := by omega
    have ih := ih (v + 1) (by omega) (by omega) (by omega)
    have bad : ∀ (P : Prop), ¬ P → Says (fun k => impl_IsGraph.j2 k n v (rd l v) l n v true n l) P := fun P hP => by
      refine says_k ?_
      simp only [impl_IsGraph.j2]
      exact says_pos trivial (says_false hP)
    refine says_k ?_
    simp only [impl_IsGraph.l0]
    refine says_pos hv (says_pos v0 (says_pos (by omega) ?_))
    by_cases h0 : rd l v < 0
    · exact says_pos h0 (bad _ fun z => by have := (z v (by omega) hv).1.1; omega)
    · refine says_neg h0 (says_pos (by omega) ?_)
      rw [shl_one (by omega) n2]
      by_cases h1 : rd l v ≥ 2 ^ n.toNat
      · exact says_pos h1 (bad _ fun z => by have := (z v (by omega) hv).1.1; omega)
      · refine says_neg h1 ?_
        rw [bit_is v0 (by omega)]
        cases ht : tb (rd l v) v with
        | true => exact bad _ fun z => by have := (z v (by omega) hv).1.2; rw [ht] at this; cases this
        | false =>
          refine says_k ?_
          simp only [impl_IsGraph.j2]
          refine says_neg (by decide) ?_
          refine says_iff ?_ (i_is_l1 n1 n2 hn v v0 hv (rd l v) n v l _ (by rw [w64 (a := v + 1) (by omega) (by omega)]; exact ih) n.toNat 0 (by omega) (by omega) (by omega))
          exact ⟨fun z => ⟨(z v (by omega) hv).2, fun a a0 a1 => z a (by omega) a1⟩, fun z a a0 a1 => if ha : a = v then by subst ha; exact ⟨⟨by omega, ht⟩, z.1⟩ else z.2 a (by omega) a1⟩
end
theorem s_is (n : Int) (l : List Int) : Says (fun k => spec_l01Is.f k n l) (isG n l) := by
  have bad : ¬ isG n l → Says (fun k => spec_l01Is.j0 k true n l) (isG n l) := fun h => by
    refine says_k ?_
    simp only [spec_l01Is.j0]
    exact says_pos trivial (says_false h)
  unfold spec_l01Is.f
  rw [s_in]
  simp only [Option.bind_some]
  by_cases h1 : 1 ≤ n ∧ n ≤ 62
  · refine says_pos (decide_eq_true h1) ?_
    by_cases h2 : (l.length : Int) = n
    · refine says_k ?_
      simp only [spec_l01Is.j0]
      refine says_neg (by simp [h2]) ?_
      refine says_iff ?_ (s_is_l0 h1.1 h1.2 h2 n.toNat 0 (by omega) (by omega) (by omega))
      constructor
      · exact fun ⟨⟨_, _, _, r⟩, lo, sy⟩ => ⟨fun a a0 a1 => ⟨r a a0 a1, lo a a0 a1⟩, fun a a0 a1 b b0 b1 => sy a b a0 a1 b0 (by omega)⟩
      · intro ⟨z, sy⟩
        refine ⟨⟨h1.1, h1.2, h2, fun a a0 a1 => (z a a0 a1).1⟩, fun a a0 a1 => (z a a0 a1).2, fun a b a0 a1 b0 b1 => ?_⟩
        rcases Int.lt_trichotomy a b with h | h | h
        · exact (sy b b0 b1 a a0 h).symm
        · rw [h]
        · exact sy a a0 a1 b b0 h
    · rw [show ((l.length : Int) != n) = true by simpa using h2]
      exact bad fun z => h2 z.1.2.2.1
  · exact says_neg (by simpa using h1) (bad fun z => h1 ⟨z.1.1, z.1.2.1⟩)
theorem i_is (n : Int) (l : List Int) : Says (fun k => impl_IsGraph.f k n l) (isG n l) := by
  have bad : ¬ isG n l → Says (fun k => impl_IsGraph.j0 k n true n l) (isG n l) := fun h => by
    refine says_k ?_
    simp only [impl_IsGraph.j0]
    exact says_pos trivial (says_false h)
  unfold impl_IsGraph.f
  by_cases h1 : n < 1
  · exact says_pos h1 (bad fun z => by have := z.1.1; omega)
  · refine says_neg h1 ?_
    by_cases h2 : n > 62
    · exact says_pos h2 (bad fun z => by have := z.1.2.1; omega)
    · refine says_neg h2 ?_
      by_cases h3 : (l.length : Int) = n
      · refine says_k ?_
        simp only [impl_IsGraph.j0]
        refine says_neg (by simp [h3]) ?_
        have := i_is_l0 (n := n) (l := l) (by omega) (by omega) h3 n.toNat 0 (by omega) (by omega) (by omega)
        rw [h3]
        refine says_iff ?_ this
        constructor
        · exact fun ⟨⟨_, _, _, r⟩, lo, sy⟩ a a0 a1 => ⟨⟨r a a0 a1, lo a a0 a1⟩, fun b b0 b1 => sy a b a0 a1 b0 b1⟩
        · exact fun z => ⟨⟨by omega, by omega, h3, fun a a0 a1 => (z a a0 a1).1.1⟩, fun a a0 a1 => (z a a0 a1).1.2, fun a b a0 a1 b0 b1 => (z a a0 a1).2 b b0 b1⟩
      · rw [show ((l.length : Int) != n) = true by simpa using h3]
        exact bad fun z => h3 z.1.2.2.1
end Go.Proofs.YtcffgfomicpbfaaDoor.Q
namespace Go.Proofs.YtcffgfomicpbfaaDoor.Q
open Go Go.RowKit Go.Proofs.YtcffgfomicpbfaaDoor.P Go.Proofs.YtcffgfomicpbfaaDoorW.PrintWords Go.Proofs.YtcffgfomicpbfaaDoorW.PrintMore
theorem s_code9_yes {n : Int} {l : List Int} (h : isG n l) : Ev (fun k => spec_l09Code.f k [⟨n, l⟩]) 0 := by
  unfold spec_l09Code.f
  refine ev_k ?_
  simp only [spec_l09Code.l0]
  refine ev_pos (by simp) (ev_pos (by omega) (Ev.bind ((s_is n l).yes h) (ev_pos rfl ?_)))
  refine ev_k ?_
  simp only [spec_l09Code.l0]
  exact ev_neg (by simp [wrap64]) (Ev.now _)
theorem s_code9_no {n : Int} {l : List Int} (h : ¬ isG n l) : Ev (fun k => spec_l09Code.f k [⟨n, l⟩]) 1 := by
  unfold spec_l09Code.f
  refine ev_k ?_
  simp only [spec_l09Code.l0]
  exact ev_pos (by simp) (ev_pos (by omega) (Ev.bind ((s_is n l).no h) (ev_neg (by decide) (Ev.now _))))
theorem s_told_yes {a : Int} (h : 1 ≤ a ∧ a ≤ 62) : spec_l09Told.f a = some 0 := by
  unfold spec_l09Told.f
  rw [s_in]
  simp [h]
theorem s_told_no {a : Int} (h : ¬ (1 ≤ a ∧ a ≤ 62)) : spec_l09Told.f a = some 3 := by
  unfold spec_l09Told.f
  rw [s_in]
  simp only [Option.bind_some]
  rw [if_neg (by simpa using h)]
theorem i_limited_yes {a : Int} (h : 1 ≤ a ∧ a ≤ 62) : impl_limitedCode.f a = some 0 := by
  unfold impl_limitedCode.f
  rw [if_neg (by omega), if_neg (by omega)]
theorem i_limited_no {a : Int} (h : ¬ (1 ≤ a ∧ a ≤ 62)) : impl_limitedCode.f a = some 3 := by
  unfold impl_limitedCode.f
  by_cases z : a < 1
  · rw [if_pos z]
  · rw [if_neg z, if_pos (by omega)]
theorem i_made (n : Int) (n0 : 0 ≤ n) (n2 : n ≤ 62) (is_ : Int → Int → Option Bool) (Q : Int → Int → Prop) (hsym : ∀ v w, 0 ≤ v → v < n → 0 ≤ w → w < n → (Q v w ↔ Q w v)) (hq : ∀ v w, 0 ≤ v → v < w → w < n → ∃ b, is_ v w = some b ∧ (b = true ↔ Q v w)) : ∃ r, Mx n r (fun a b => a ≠ b ∧ Q a b) ∧ Ev (fun k => impl_made.f is_ k n) (n, r) := by
  have outer : ∀ (d : Nat) (v : Int) (m : List Int), 0 ≤ v → v ≤ n → n - v = d → Mx n m (fun a b => (a < v ∨ b < v) ∧ a ≠ b ∧ Q a b) → ∃ r, Mx n r (fun a b => a ≠ b ∧ Q a b) ∧ Ev (fun k => impl_made.l0 is_ k n n v n m) (n, r) := by
    intro d
    induction d with
    | zero =>
      intro v m v0 v1 hd hm
      refine ⟨m, hm.imp fun a b a0 a1 b0 b1 => ⟨fun z => z.2, fun z => ⟨by omega, z⟩⟩, ev_k ?_⟩
      simp only [impl_made.l0]
      exact ev_neg (by omega) (Ev.now _)
    | succ d ih =>
      intro v m v0 v1 hd hm
      have inner : ∀ (e : Nat) (u : Int) (m : List Int), v < u → u ≤ n → n - u = e → Mx n m (fun a b => ((a < v ∨ b < v) ∨ (a = v ∧ b < u) ∨ (b = v ∧ a < u)) ∧ a ≠ b ∧ Q a b) → ∃ r, Mx n r (fun a b => a ≠ b ∧ Q a b) ∧ Ev (fun k => impl_made.l1 is_ k n v u n v n m) (n, r) := by
        intro e
        induction e with
        | zero =>
          intro u m u0 u1 he hm
          obtain ⟨r, hr, hx⟩ := ih (v + 1) m (by omega) (by omega) (by omega) (hm.imp fun a b a0 a1 b0 b1 => and_congr (by omega) Iff.rfl)
          refine ⟨r, hr, ev_k ?_⟩
          simp only [impl_made.l1]
          rw [w64 (a := v + 1) (by omega) (by omega)]
          exact ev_neg (by omega) hx
        | succ e ihe =>
          intro u m u0 u1 he hm
          have hl := hm.1
          obtain ⟨b, hb, hbq⟩ := hq v u v0 u0 (by omega)
          cases b with
          | true =>
            have hQ := hbq.1 rfl
            obtain ⟨r, hr, hx⟩ := ihe (u + 1) _ (by omega) (by omega) (by omega) ((hm.joined n2 v0 (by omega) (by omega : 0 ≤ u) (by omega : u < n)).imp (Q := fun a b => ((a < v ∨ b < v) ∨ (a = v ∧ b < u + 1) ∨ (b = v ∧ a < u + 1)) ∧ a ≠ b ∧ Q a b) fun a b a0 a1 b0 b1 => by
              constructor
              · rintro (⟨z, y⟩ | ⟨rfl, rfl⟩ | ⟨rfl, rfl⟩)
                · exact ⟨by omega, y⟩
                · exact ⟨by omega, by omega, hQ⟩
                · exact ⟨by omega, by omega, (hsym a b a0 a1 b0 b1).2 hQ⟩
              · rintro ⟨z, y⟩
                by_cases q : (a = v ∧ b = u) ∨ (a = u ∧ b = v)
                · exact .inr q
                · exact .inl ⟨by omega, y⟩)
            refine ⟨r, hr, ev_k ?_⟩
            simp only [impl_made.l1, hb, Option.bind_some]
            rw [w64 (a := u + 1) (by omega) (by omega)]
            exact ev_pos (by omega) (ev_pos trivial (ev_bind0 (i_put n m v u v0 (by omega) (by omega) (by omega) (by omega)) hx))
          | false =>
            have nQ : ¬ Q v u := fun z => by have := hbq.2 z; cases this
            obtain ⟨r, hr, hx⟩ := ihe (u + 1) m (by omega) (by omega) (by omega) (hm.imp fun a b a0 a1 b0 b1 => by
              constructor
              · rintro ⟨z, y⟩
                exact ⟨by omega, y⟩
              · rintro ⟨z, y⟩
                by_cases q : (a = v ∧ b = u) ∨ (a = u ∧ b = v)
                · rcases q with ⟨rfl, rfl⟩ | ⟨rfl, rfl⟩
                  · exact absurd y.2 nQ
                  · exact absurd ((hsym a b a0 a1 b0 b1).1 y.2) nQ
                · exact ⟨by omega, y⟩)
            refine ⟨r, hr, ev_k ?_⟩
            simp only [impl_made.l1, hb, Option.bind_some]
            rw [w64 (a := u + 1) (by omega) (by omega)]
            exact ev_pos (by omega) (ev_neg (by simp) hx)
      obtain ⟨r, hr, hx⟩ := inner (n - (v + 1)).toNat (v + 1) m (by omega) (by omega) (by omega) (hm.imp fun a b a0 a1 b0 b1 => by
        constructor
        · rintro ⟨z, y⟩
          exact ⟨.inl z, y⟩
        · rintro ⟨z, y⟩
          exact ⟨by have := y.1; omega, y⟩)
      refine ⟨r, hr, ev_k ?_⟩
      simp only [impl_made.l0]
      rw [w64 (a := v + 1) (by omega) (by omega)]
      exact ev_pos (by omega) hx
  obtain ⟨r, hr, hx⟩ := outer n.toNat 0 _ (by omega) (by omega) (by omega) ((Mx.zero n n0).imp fun a b a0 a1 b0 b1 => ⟨False.elim, fun z => by omega⟩)
  refine ⟨r, hr, ?_⟩
  unfold impl_made.f
  exact ev_bind0 (i_empty n n0 n2) hx
theorem s_made {R : Type} (n : Int) (n0 : 0 ≤ n) (n2 : n ≤ 62) (Q : Int → Int → Prop) (hsym : ∀ v w, 0 ≤ v → v < n → 0 ≤ w → w < n → (Q v w ↔ Q w v)) (L0 : Nat → Int → List Int → Option R) (L1 : Nat → Int → Int → List Int → Option R) (res : List Int → R)
    (hend : ∀ m, Ev (fun k => L0 k n m) (res m))
    (h0 : ∀ v m r, 0 ≤ v → v < n → Ev (fun k => L1 k v 0 m) r → Ev (fun k => L0 k v m) r)
    (h1 : ∀ v m r, 0 ≤ v → v < n → Ev (fun k => L0 k (v + 1) m) r → Ev (fun k => L1 k v v m) r)
    (hy : ∀ v u m r, 0 ≤ u → u < v → v < n → (m.length : Int) = n → Q v u → Ev (fun k => L1 k v (u + 1) (joined m v u)) r → Ev (fun k => L1 k v u m) r)
    (hn : ∀ v u m r, 0 ≤ u → u < v → v < n → (m.length : Int) = n → ¬ Q v u → Ev (fun k => L1 k v (u + 1) m) r → Ev (fun k => L1 k v u m) r) :
    ∃ r, Mx n r (fun a b => a ≠ b ∧ Q a b) ∧ Ev (fun k => L0 k 0 (List.replicate n.toNat 0)) (res r) := by
  have outer : ∀ (d : Nat) (v : Int) (m : List Int), 0 ≤ v → v ≤ n → n - v = d → Mx n m (fun a b => (a < v ∧ b < v) ∧ a ≠ b ∧ Q a b) → ∃ r, Mx n r (fun a b => a ≠ b ∧ Q a b) ∧ Ev (fun k => L0 k v m) (res r) := by
    intro d
    induction d with
    | zero =>
      intro v m v0 v1 hd hm
      refine ⟨m, hm.imp fun a b a0 a1 b0 b1 => ⟨fun z => z.2, fun z => ⟨by omega, z⟩⟩, ?_⟩
      rw [show v = n by omega]
      exact hend m
    | succ d ih =>
      intro v m v0 v1 hd hm
      have inner : ∀ (e : Nat) (u : Int) (m : List Int), 0 ≤ u → u ≤ v → v - u = e → Mx n m (fun a b => ((a < v ∧ b < v) ∨ (a = v ∧ b < u) ∨ (b = v ∧ a < u)) ∧ a ≠ b ∧ Q a b) → ∃ r, Mx n r (fun a b => a ≠ b ∧ Q a b) ∧ Ev (fun k => L1 k v u m) (res r) := by
        intro e
        induction e with
        | zero =>
          intro u m u0 u1 he hm
          obtain ⟨r, hr, hx⟩ := ih (v + 1) m (by omega) (by omega) (by omega) (hm.imp fun a b a0 a1 b0 b1 => by
            constructor
            · rintro ⟨z, y⟩
              exact ⟨by omega, y⟩
            · rintro ⟨z, y⟩
              have := y.1
              exact ⟨by omega, y⟩)
          refine ⟨r, hr, ?_⟩
          rw [show u = v by omega]
          exact h1 v m _ v0 (by omega) hx
        | succ e ihe =>
          intro u m u0 u1 he hm
          by_cases hQ : Q v u
          · obtain ⟨r, hr, hx⟩ := ihe (u + 1) _ (by omega) (by omega) (by omega) ((hm.joined n2 v0 (by omega) u0 (by omega : u < n)).imp (Q := fun a b => ((a < v ∧ b < v) ∨ (a = v ∧ b < u + 1) ∨ (b = v ∧ a < u + 1)) ∧ a ≠ b ∧ Q a b) fun a b a0 a1 b0 b1 => by
              constructor
              · rintro (⟨z, y⟩ | ⟨rfl, rfl⟩ | ⟨rfl, rfl⟩)
                · exact ⟨by omega, y⟩
                · exact ⟨by omega, by omega, hQ⟩
                · exact ⟨by omega, by omega, (hsym a b a0 a1 b0 b1).2 hQ⟩
              · rintro ⟨z, y⟩
                by_cases q : (a = v ∧ b = u) ∨ (a = u ∧ b = v)
                · exact .inr q
                · exact .inl ⟨by omega, y⟩)
            exact ⟨r, hr, hy v u m _ u0 (by omega) (by omega) hm.1 hQ hx⟩
          · obtain ⟨r, hr, hx⟩ := ihe (u + 1) m (by omega) (by omega) (by omega) (hm.imp fun a b a0 a1 b0 b1 => by
              constructor
              · rintro ⟨z, y⟩
                exact ⟨by omega, y⟩
              · rintro ⟨z, y⟩
                by_cases q : (a = v ∧ b = u) ∨ (a = u ∧ b = v)
                · rcases q with ⟨rfl, rfl⟩ | ⟨rfl, rfl⟩
                  · exact absurd y.2 hQ
                  · exact absurd ((hsym a b a0 a1 b0 b1).1 y.2) hQ
                · exact ⟨by omega, y⟩)
            exact ⟨r, hr, hn v u m _ u0 (by omega) (by omega) hm.1 hQ hx⟩
      obtain ⟨r, hr, hx⟩ := inner v.toNat 0 m (by omega) (by omega) (by omega) (hm.imp fun a b a0 a1 b0 b1 => and_congr (by omega) Iff.rfl)
      exact ⟨r, hr, h0 v m _ v0 (by omega) hx⟩
  exact outer n.toNat 0 _ (by omega) (by omega) (by omega) ((Mx.zero n n0).imp fun a b a0 a1 b0 b1 => ⟨False.elim, fun z => by omega⟩)
end Go.Proofs.YtcffgfomicpbfaaDoor.Q
namespace Go.Proofs.YtcffgfomicpbfaaDoor.Q
open Go Go.RowKit Go.Proofs.YtcffgfomicpbfaaDoor.P Go.Proofs.YtcffgfomicpbfaaDoorW.PrintWords Go.Proofs.YtcffgfomicpbfaaDoorW.PrintMore
def onesFrom (x : Nat) : Nat → Nat → List Int
  | 0, _ => []
  | d + 1, m => if x.testBit m then (m : Int) :: onesFrom x d (m + 1) else onesFrom x d (m + 1)
theorem onesFrom_zero (d : Nat) : ∀ m, onesFrom 0 d m = [] := by
  induction d with
  | zero => intro m; rfl
  | succ d ih => intro m; simp [onesFrom, ih]
theorem onesFrom_congr (x y : Nat) (d : Nat) : ∀ m, (∀ i, m ≤ i → x.testBit i = y.testBit i) → onesFrom x d m = onesFrom y d m := by
  induction d with
  | zero => intro m _; rfl
  | succ d ih =>
    intro m h
    simp only [onesFrom]
    rw [h m (Nat.le_refl _), ih (m + 1) fun i hi => h i (by omega)]
theorem ctz_at {x m : Nat} (hx : x < 2 ^ 64) (hb : x.testBit m = true) (hl : ∀ i, i < m → x.testBit i = false) : Lib.ctz 64 x = m ∧ ∃ q, x = 2 ^ m * (2 * q + 1) := by
  have h0 : x ≠ 0 := by rintro rfl; simp at hb
  obtain ⟨q, e, _⟩ := Lib.ctzFrom_spec 64 x (by omega) hx
  have ec : Lib.ctz 64 x = Lib.ctzFrom 64 x := by simp [Lib.ctz, h0]
  have ht : ∀ i, x.testBit i = (decide (i ≥ Lib.ctzFrom 64 x) && (2 * q + 1).testBit (i - Lib.ctzFrom 64 x)) := fun i => by rw [← Nat.testBit_two_pow_mul, ← e]
  generalize Lib.ctzFrom 64 x = c at *
  have hc : c = m := by
    rcases Nat.lt_trichotomy c m with h | h | h
    · have a := hl c h
      rw [ht c] at a
      simp at a
    · exact h
    · rw [ht m] at hb
      have : ¬ m ≥ c := by omega
      simp [this] at hb
  subst hc
  exact ⟨ec, q, e⟩
theorem and_pred {m q : Nat} : (2 ^ m * (2 * q + 1)) &&& (2 ^ m * (2 * q + 1) - 1) = 2 ^ m * (2 * q) := by
  have p := Nat.two_pow_pos m
  have e : 2 ^ m * (2 * q + 1) - 1 = 2 ^ m * (2 * q) + (2 ^ m - 1) := by rw [Nat.mul_add]; omega
  rw [e]
  refine Nat.eq_of_testBit_eq fun i => ?_
  rw [Nat.testBit_and, Nat.testBit_two_pow_mul, Nat.testBit_two_pow_mul_add _ (by omega), Nat.testBit_two_pow_mul]
  by_cases h : i < m
  · have : ¬ i ≥ m := by omega
    simp [this]
  · have : i ≥ m := by omega
    simp only [this, decide_true, Bool.true_and, h, if_false]
    cases i - m with
    | zero => simp
    | succ j => simp [Nat.testBit_succ]; rw [show (2 * q + 1) / 2 = q by omega]; simp
theorem pred_bit {m q i : Nat} (h : m < i) : (2 ^ m * (2 * q)).testBit i = (2 ^ m * (2 * q + 1)).testBit i := by
  rw [Nat.testBit_two_pow_mul, Nat.testBit_two_pow_mul]
  obtain ⟨j, hj⟩ : ∃ j, i - m = j + 1 := ⟨i - m - 1, by omega⟩
  rw [hj, Nat.testBit_succ, Nat.testBit_succ, show (2 * q + 1) / 2 = 2 * q / 2 by omega]
theorem pred_low {m q i : Nat} (h : i < m + 1) : (2 ^ m * (2 * q)).testBit i = false := by
  rw [Nat.testBit_two_pow_mul]
  by_cases e : i = m
  · subst e
    simp
  · have : ¬ i ≥ m := by omega
    simp [this]
theorem i_list_l0 (d : Nat) : ∀ (m x : Nat) (acc : List Int), d + m = 62 → x < 2 ^ 62 → (∀ i, i < m → x.testBit i = false) → acc.length ≤ m → Ev (fun k => impl_list.l0 k (x : Int) acc) (acc ++ onesFrom x d m) := by
  have done : ∀ d m (acc : List Int), Ev (fun k => impl_list.l0 k ((0 : Nat) : Int) acc) (acc ++ onesFrom 0 d m) := by
    intro d m acc
    rw [onesFrom_zero, List.append_nil]
    refine ev_k ?_
    simp only [impl_list.l0]
    exact ev_pos rfl (Ev.now _)
  induction d with
  | zero =>
    intro m x acc hd hx hl ha
    have : x = 0 := by
      refine Nat.eq_of_testBit_eq fun i => ?_
      rw [Nat.zero_testBit]
      by_cases hi : i < m
      · exact hl i hi
      · exact Nat.testBit_lt_two_pow (Nat.lt_of_lt_of_le hx (Nat.pow_le_pow_right (by decide) (by omega)))
    subst this
    exact done 0 m acc
  | succ d ih =>
    intro m x acc hd hx hl ha
    by_cases hb : x.testBit m = true
    · obtain ⟨hc, q, e⟩ := ctz_at (Nat.lt_trans hx (by decide)) hb hl
      have x0 : x ≠ 0 := by rintro rfl; simp at hb
      have hq : 2 ^ m * (2 * q) < 2 ^ 62 := Nat.lt_of_le_of_lt (Nat.mul_le_mul_left _ (by omega)) (e ▸ hx)
      have := ih (m + 1) (2 ^ m * (2 * q)) (acc ++ [(m : Int)]) (by omega) hq (fun i hi => pred_low hi) (by simp; omega)
      have e2 : acc ++ onesFrom x (d + 1) m = acc ++ [(m : Int)] ++ onesFrom (2 ^ m * (2 * q)) d (m + 1) := by
        simp only [onesFrom, hb, if_true]
        rw [onesFrom_congr x (2 ^ m * (2 * q)) d (m + 1) fun i hi => by rw [pred_bit (by omega), ← e]]
        simp
      rw [e2]
      refine ev_k ?_
      simp only [impl_list.l0]
      refine ev_neg (by omega) ?_
      rw [wu64 (a := (x : Int)) (by omega) (by omega), w64 (a := (x : Int) - 1) (by omega) (by omega), show (x : Int) - 1 = ((x - 1 : Nat) : Int) by omega, and_nat x (x - 1) (by omega) (by omega)]
      have ex : x &&& (x - 1) = 2 ^ m * (2 * q) := by rw [e]; exact and_pred
      rw [ex]
      refine ev_bind0 (a := (m : Int)) ?_ (ev_pos (by omega) this)
      unfold bits_TrailingZeros64.f
      rw [if_pos (by omega), if_pos (by omega), Int.toNat_natCast, hc]
    · have := ih (m + 1) x acc (by omega) hx (fun i hi => if h : i = m then by rw [h]; simpa using hb else hl i (by omega)) (by omega)
      have e : onesFrom x (d + 1) m = onesFrom x d (m + 1) := by simp [onesFrom, hb]
      rwa [e]
def ones (x : Int) : List Int := onesFrom x.toNat 62 0
theorem i_list {x : Int} (h0 : 0 ≤ x) (h1 : x < 4611686018427387904) : Ev (fun k => impl_list.f k x) (ones x) := by
  obtain ⟨y, rfl⟩ := Int.eq_ofNat_of_zero_le h0
  unfold impl_list.f ones
  rw [Int.toNat_natCast]
  have := i_list_l0 62 0 y [] (by omega) (by omega) (fun i hi => by omega) (by simp)
  simpa using this
theorem onesFrom_mem (x : Nat) (d : Nat) : ∀ m (v : Int), v ∈ onesFrom x d m ↔ ∃ i : Nat, v = (i : Int) ∧ m ≤ i ∧ i < m + d ∧ x.testBit i = true := by
  induction d with
  | zero => intro m v; simp [onesFrom]; intro i _ _; omega
  | succ d ih =>
    intro m v
    simp only [onesFrom]
    have s : (∃ i : Nat, v = (i : Int) ∧ m ≤ i ∧ i < m + (d + 1) ∧ x.testBit i = true) ↔ (v = (m : Int) ∧ x.testBit m = true) ∨ ∃ i : Nat, v = (i : Int) ∧ m + 1 ≤ i ∧ i < m + 1 + d ∧ x.testBit i = true := by
      constructor
      · rintro ⟨i, rfl, h1, h2, h3⟩
        by_cases e : i = m
        · subst e
          exact .inl ⟨rfl, h3⟩
        · exact .inr ⟨i, rfl, by omega, by omega, h3⟩
      · rintro (⟨rfl, h⟩ | ⟨i, rfl, h1, h2, h3⟩)
        · exact ⟨m, rfl, by omega, by omega, h⟩
        · exact ⟨i, rfl, by omega, by omega, h3⟩
    rw [s, ← ih]
    by_cases h : x.testBit m = true
    · rw [if_pos h]
      simp [h]
    · rw [if_neg h]
      simp [h]
theorem ones_mem {n x : Int} (n0 : 0 ≤ n) (n2 : n ≤ 62) (x0 : 0 ≤ x) (x1 : x < 2 ^ n.toNat) (v : Int) : v ∈ ones x ↔ 0 ≤ v ∧ v < n ∧ tb x v = true := by
  unfold ones
  rw [onesFrom_mem]
  constructor
  · rintro ⟨i, rfl, h1, h2, h3⟩
    have ht : tb x i = true := by rw [tb_toNat x0 (by omega)]; simpa using h3
    refine ⟨by omega, ?_, ht⟩
    by_cases h : (i : Int) < n
    · exact h
    · rw [tb_high x0 x1 n0 (by omega)] at ht
      cases ht
  · rintro ⟨h1, h2, h3⟩
    refine ⟨v.toNat, by omega, by omega, by omega, ?_⟩
    rwa [tb_toNat x0 h1] at h3
theorem onesFrom_length (x : Nat) (d : Nat) : ∀ m, (onesFrom x d m).length ≤ d := by
  induction d with
  | zero => intro m; simp [onesFrom]
  | succ d ih =>
    intro m
    simp only [onesFrom]
    have := ih (m + 1)
    split <;> simp <;> omega
theorem ones_length (x : Int) : (ones x).length ≤ 62 := onesFrom_length _ 62 0
theorem onesFrom_high (x : Nat) (d e : Nat) : ∀ m, x < 2 ^ (m + d) → onesFrom x (d + e) m = onesFrom x d m := by
  induction d with
  | zero =>
    intro m h
    rw [Nat.zero_add]
    induction e generalizing m with
    | zero => rfl
    | succ e ihe =>
      have hb : x.testBit m = false := Nat.testBit_lt_two_pow h
      simp only [onesFrom, hb]
      rw [ihe (m + 1) (Nat.lt_of_lt_of_le h (Nat.pow_le_pow_right (by decide) (by omega)))]
      simp [onesFrom]
  | succ d ih =>
    intro m h
    rw [show d + 1 + e = (d + e) + 1 by omega]
    simp only [onesFrom]
    rw [ih (m + 1) (by rwa [show m + 1 + d = m + (d + 1) by omega])]
theorem ones_to {n x : Int} (n0 : 0 ≤ n) (n2 : n ≤ 62) (x0 : 0 ≤ x) (x1 : x < 2 ^ n.toNat) : ones x = onesFrom x.toNat n.toNat 0 := by
  unfold ones
  have e : ((2 : Int) ^ n.toNat) = ((2 ^ n.toNat : Nat) : Int) := by simp
  rw [e] at x1
  have := onesFrom_high x.toNat n.toNat (62 - n.toNat) 0 (by rw [Nat.zero_add]; omega)
  rwa [show n.toNat + (62 - n.toNat) = 62 by omega] at this
theorem onesFrom_add (x a b : Nat) : ∀ m, onesFrom x (a + b) m = onesFrom x a m ++ onesFrom x b (m + a) := by
  induction a with
  | zero => intro m; simp [onesFrom]
  | succ a ih =>
    intro m
    rw [show a + 1 + b = (a + b) + 1 by omega]
    simp only [onesFrom]
    rw [ih (m + 1), show m + 1 + a = m + (a + 1) by omega]
    split <;> simp
end Go.Proofs.YtcffgfomicpbfaaDoor.Q
namespace Go.Proofs.YtcffgfomicpbfaaDoor.Q
open Go Go.RowKit Go.Proofs.YtcffgfomicpbfaaDoor.P Go.Proofs.YtcffgfomicpbfaaDoorW.PrintWords Go.Proofs.YtcffgfomicpbfaaDoorW.PrintMore
def edgeRow (v : Int) (ws : List Int) : List (List Int) := (ws.filter fun w => decide (v < w)).map fun w => [v, w]
def edgesTo (l : List Int) : Nat → List (List Int)
  | 0 => []
  | m + 1 => edgesTo l m ++ edgeRow (m : Int) (ones (rd l (m : Int)))
theorem edgeRow_app (v : Int) (a b : List Int) : edgeRow v (a ++ b) = edgeRow v a ++ edgeRow v b := by simp [edgeRow]
theorem edgeRow_length (v : Int) (a : List Int) : (edgeRow v a).length ≤ a.length := by
  unfold edgeRow
  rw [List.length_map]
  exact List.length_filter_le _ _
theorem edgesTo_length (l : List Int) (m : Nat) : (edgesTo l m).length ≤ m * 62 := by
  induction m with
  | zero => simp [edgesTo]
  | succ m ih =>
    have a := edgeRow_length (m : Int) (ones (rd l (m : Int)))
    have b := ones_length (rd l (m : Int))
    simp only [edgesTo, List.length_append]
    omega
theorem edgesTo_mem {n : Int} {l : List Int} (h : rows n l) (m : Nat) (hm : (m : Int) ≤ n) (e : List Int) : e ∈ edgesTo l m ↔ ∃ v w : Int, (0 ≤ v ∧ v < m) ∧ (v < w ∧ w < n) ∧ tb (rd l v) w = true ∧ e = [v, w] := by
  have n2 := h.2.1
  induction m with
  | zero =>
    simp only [edgesTo, List.not_mem_nil, false_iff]
    rintro ⟨v, w, hv, _⟩
    omega
  | succ m ih =>
    have hr := h.2.2.2 (m : Int) (by omega) (by omega)
    simp only [edgesTo, List.mem_append]
    refine Iff.trans (or_congr (ih (by omega)) Iff.rfl) ?_
    constructor
    · rintro (⟨v, w, hv, hw⟩ | he)
      · exact ⟨v, w, by omega, hw⟩
      · obtain ⟨w, hw, rfl⟩ := List.mem_map.1 he
        obtain ⟨hw1, hw2⟩ := List.mem_filter.1 hw
        obtain ⟨w0, w1, wt⟩ := (ones_mem (by omega) n2 hr.1 hr.2 w).1 hw1
        exact ⟨m, w, by omega, ⟨by simpa using hw2, w1⟩, wt, rfl⟩
    · rintro ⟨v, w, hv, hw, ht, rfl⟩
      by_cases z : v = m
      · subst z
        refine .inr (List.mem_map.2 ⟨w, List.mem_filter.2 ⟨(ones_mem (by omega) n2 hr.1 hr.2 w).2 ⟨by omega, hw.2, ht⟩, by simpa using hw.1⟩, rfl⟩)
      · exact .inl ⟨v, w, by omega, hw, ht, rfl⟩
theorem i_edges {n : Int} {l : List Int} (h : rows n l) : Ev (fun k => impl_Graph_edges.f k n l) (edgesTo l n.toNat) := by
  have n1 := h.1
  have n2 := h.2.1
  have hl := h.2.2.1
  have loop : ∀ (d v : Nat), (v : Int) ≤ n → n - v = d → Ev (fun k => impl_Graph_edges.l0 k (edgesTo l v) n v n l) (edgesTo l n.toNat) := by
    intro d
    induction d with
    | zero =>
      intro v v1 hd
      refine ev_k ?_
      simp only [impl_Graph_edges.l0]
      refine ev_neg (by omega) (ev_some ?_)
      rw [show v = n.toNat by omega]
    | succ d ih =>
      intro v v1 hd
      have hr := h.2.2.2 (v : Int) (by omega) (by omega)
      have hp := two_pow_le (n := n) (by omega) n2
      have ol := ones_length (rd l (v : Int))
      have el := edgesTo_length l v
      have inner : ∀ (ws pre : List Int), pre ++ ws = ones (rd l (v : Int)) → Ev (fun k => impl_Graph_edges.l1 k (edgesTo l v ++ edgeRow v pre) v n v (ones (rd l (v : Int))) ((ones (rd l (v : Int))).length : Int) (pre.length : Int) n l) (edgesTo l n.toNat) := by
        intro ws
        induction ws with
        | nil =>
          intro pre hpre
          rw [List.append_nil] at hpre
          have := ih (v + 1) (by omega) (by omega)
          refine ev_k ?_
          simp only [impl_Graph_edges.l1]
          rw [w64 (a := (v : Int) + 1) (by omega) (by omega), hpre]
          exact ev_neg (by omega) this
        | cons w ws ihw =>
          intro pre hpre
          have hlt : pre.length < (ones (rd l (v : Int))).length := by rw [← hpre]; simp
          have hw : rd (ones (rd l (v : Int))) (pre.length : Int) = w := by
            rw [← hpre]
            simp [rd, List.getD_eq_getElem?_getD]
          have hrl := edgeRow_length (v : Int) pre
          have := ihw (pre ++ [w]) (by rw [← hpre]; simp)
          rw [edgeRow_app, List.length_append, List.length_singleton, Int.natCast_add] at this
          refine ev_k ?_
          simp only [impl_Graph_edges.l1, hw]
          rw [w64 (a := (pre.length : Int) + 1) (by omega) (by omega)]
          refine ev_pos (by omega) (ev_pos (by omega) (ev_pos (by omega) ?_))
          by_cases z : w > v
          · rw [show edgeRow (v : Int) [w] = [[(v : Int), w]] by simp [edgeRow]; omega, ← List.append_assoc] at this
            exact ev_pos z (ev_pos (by simp only [List.length_append]; omega) this)
          · rw [show edgeRow (v : Int) [w] = [] by simp [edgeRow]; omega, List.append_nil] at this
            exact ev_neg z this
      have := inner (ones (rd l (v : Int))) [] rfl
      rw [show edgeRow (v : Int) [] = [] from rfl, List.append_nil] at this
      refine ev_k ?_
      simp only [impl_Graph_edges.l0]
      exact ev_pos (by omega) (ev_pos (by omega) (ev_pos (by omega) (Ev.bind (i_list hr.1 (by omega)) this)))
  unfold impl_Graph_edges.f
  exact loop n.toNat 0 (by omega) (by omega)
theorem s_edges {n : Int} {l : List Int} (h : rows n l) : Ev (fun k => spec_l01Edges.f k n l) (edgesTo l n.toNat) := by
  have n1 := h.1
  have n2 := h.2.1
  have hl := h.2.2.1
  have loop : ∀ (d v : Nat), (v : Int) ≤ n → n - v = d → Ev (fun k => spec_l01Edges.l0 k (edgesTo l v) v n l) (edgesTo l n.toNat) := by
    intro d
    induction d with
    | zero =>
      intro v v1 hd
      refine ev_k ?_
      simp only [spec_l01Edges.l0]
      refine ev_neg (by omega) (ev_some ?_)
      rw [show v = n.toNat by omega]
    | succ d ih =>
      intro v v1 hd
      have hr := h.2.2.2 (v : Int) (by omega) (by omega)
      have hp := two_pow_le (n := n) (by omega) n2
      have el := edgesTo_length l v
      have hto := ones_to (n := n) (by omega) n2 hr.1 hr.2
      have row : edgeRow (v : Int) (ones (rd l (v : Int))) = edgeRow v (onesFrom (rd l (v : Int)).toNat (n.toNat - (v + 1)) (v + 1)) := by
        rw [hto, show n.toNat = (v + 1) + (n.toNat - (v + 1)) by omega, onesFrom_add, edgeRow_app, Nat.zero_add]
        have : edgeRow (v : Int) (onesFrom (rd l (v : Int)).toNat (v + 1) 0) = [] := by
          unfold edgeRow
          rw [List.map_eq_nil_iff, List.filter_eq_nil_iff]
          intro w hw
          obtain ⟨i, rfl, _, h2, _⟩ := (onesFrom_mem _ _ _ _).1 hw
          simp
          omega
        rw [this, List.nil_append]
        congr 2
        omega
      have inner : ∀ (e w : Nat) (acc : List (List Int)), (w : Int) ≤ n → n.toNat - w = e → v < w → acc.length + e ≤ 4000 → acc ++ edgeRow v (onesFrom (rd l (v : Int)).toNat e w) = edgesTo l (v + 1) → Ev (fun k => spec_l01Edges.l1 k acc v w n l) (edgesTo l n.toNat) := by
        intro e
        induction e with
        | zero =>
          intro w acc w1 he hvw hal hacc
          have := ih (v + 1) (by omega) (by omega)
          rw [← hacc] at this
          simp only [onesFrom] at this
          rw [show edgeRow (v : Int) [] = [] from rfl, List.append_nil] at this
          refine ev_k ?_
          simp only [spec_l01Edges.l1]
          rw [w64 (a := (v : Int) + 1) (by omega) (by omega)]
          exact ev_neg (by omega) this
        | succ e ihe =>
          intro w acc w1 he hvw hal hacc
          have hh := s_has n l (v : Int) (w : Int) (by omega) (by omega) (by omega) (by omega)
          have htb : tb (rd l (v : Int)) (w : Int) = (rd l (v : Int)).toNat.testBit w := by rw [tb_toNat hr.1 (by omega), Int.toNat_natCast]
          refine ev_k ?_
          simp only [spec_l01Edges.l1, hh, Option.bind_some]
          rw [w64 (a := (w : Int) + 1) (by omega) (by omega)]
          refine ev_pos (by omega) ?_
          by_cases z : tb (rd l (v : Int)) (w : Int) = true
          · have := ihe (w + 1) (acc ++ [[(v : Int), (w : Int)]]) (by omega) (by omega) (by omega) (by simp; omega) (by
              rw [← hacc]
              simp only [onesFrom]
              rw [if_pos (by rw [← htb]; exact z)]
              rw [show (w : Int) :: onesFrom (rd l (v : Int)).toNat e (w + 1) = [(w : Int)] ++ onesFrom (rd l (v : Int)).toNat e (w + 1) from rfl, edgeRow_app, show edgeRow (v : Int) [(w : Int)] = [[(v : Int), (w : Int)]] by simp [edgeRow]; omega, List.append_assoc])
            exact ev_pos z (ev_pos (by omega) this)
          · have := ihe (w + 1) acc (by omega) (by omega) (by omega) (by omega) (by
              rw [← hacc]
              simp only [onesFrom]
              rw [if_neg (by rw [← htb]; exact z)])
            exact ev_neg z this
      have := inner (n.toNat - (v + 1)) (v + 1) (edgesTo l v) (by omega) rfl (by omega) (by omega) (by simp only [edgesTo]; rw [row])
      refine ev_k ?_
      simp only [spec_l01Edges.l0]
      rw [w64 (a := (v : Int) + 1) (by omega) (by omega)]
      exact ev_pos (by omega) this
  unfold spec_l01Edges.f
  exact loop n.toNat 0 (by omega) (by omega)
end Go.Proofs.YtcffgfomicpbfaaDoor.Q
namespace Go.Proofs.YtcffgfomicpbfaaDoor.Q
open Go Go.RowKit Go.Proofs.YtcffgfomicpbfaaDoor.P Go.Proofs.YtcffgfomicpbfaaDoorW.PrintWords Go.Proofs.YtcffgfomicpbfaaDoorW.PrintMore
theorem rd_at (l : List Int) (i : Int) (h1 : i.toNat < l.length) : rd l i = l[i.toNat] := by
  simp [rd, List.getD_eq_getElem?_getD, List.getElem?_eq_getElem h1]
theorem toS_l0 (l : List Int) (hl : l.length < 9223372036854775807) (d : Nat) : ∀ (m : List Int) (i : Int), 0 ≤ i → i ≤ l.length → l.length - i = d → m.length = l.length → (∀ j, j < i.toNat → m[j]? = l[j]?) →
    Ev (fun k => laws_toInt64S.l0 k l m i) l := by
  induction d with
  | zero =>
    intro m i h0 h1 hd hm hj
    refine ev_k ?_
    simp only [laws_toInt64S.l0]
    refine ev_neg (by omega) (ev_some (List.ext_getElem? fun j => ?_))
    by_cases h : j < i.toNat
    · exact hj j h
    · rw [List.getElem?_eq_none (by omega), List.getElem?_eq_none (by omega)]
  | succ d ih =>
    intro m i h0 h1 hd hm hj
    refine ev_k ?_
    simp only [laws_toInt64S.l0]
    refine ev_pos (by omega) (ev_pos h0 (ev_pos (by omega) ?_))
    rw [w64 (a := i + 1) (by omega) (by omega)]
    refine ih _ (i + 1) (by omega) (by omega) (by omega) (by simpa using hm) fun j h => ?_
    rw [List.getElem?_set]
    split
    · subst_vars
      rw [if_pos (by omega), rd_at l i (by omega), List.getElem?_eq_getElem]
    · exact hj j (by omega)
theorem toS (l : List Int) (hl : l.length ≤ 35184372088832) : Ev (fun k => laws_toInt64S.f k l) l := by
  unfold laws_toInt64S.f
  refine ev_pos (by omega) (ev_pos (by omega) ?_)
  exact toS_l0 l (by omega) l.length _ 0 (by omega) (by omega) (by omega) (by simp) (fun j h => by simp at h)
theorem eqS_l0 (l m : List Int) (e : l.length = m.length) (hl : l.length < 9223372036854775807) (d : Nat) : ∀ (i : Int), 0 ≤ i → i ≤ l.length → l.length - i = d →
    Ev (fun k => laws_eqInt64S.l0 k l m i) (decide (l.drop i.toNat = m.drop i.toNat)) := by
  have dc : ∀ (l : List Int) (i : Int), 0 ≤ i → i < l.length → l.drop i.toNat = rd l i :: l.drop (i + 1).toNat := fun l i h0 h1 => by
    rw [List.drop_eq_getElem_cons (by omega : i.toNat < l.length), show (i + 1).toNat = i.toNat + 1 by omega, rd_at l i (by omega)]
  induction d with
  | zero =>
    intro i h0 h1 hd
    refine ev_k ?_
    simp only [laws_eqInt64S.l0]
    refine ev_neg (by omega) (ev_some ?_)
    rw [List.drop_of_length_le (by omega), List.drop_of_length_le (by omega)]
    rfl
  | succ d ih =>
    intro i h0 h1 hd
    refine ev_k ?_
    simp only [laws_eqInt64S.l0]
    refine ev_pos (by omega) (ev_pos h0 (ev_pos (by omega) ?_))
    rw [w64 (a := i + 1) (by omega) (by omega), dc l i h0 (by omega), dc m i h0 (by omega)]
    by_cases h : rd l i = rd m i
    · refine ev_pos h ?_
      simp only [List.cons.injEq, h, true_and]
      exact ih (i + 1) (by omega) (by omega) (by omega)
    · refine ev_neg h (ev_some ?_)
      simp [h]
theorem eqS (l m : List Int) (hl : l.length < 9223372036854775807) : Ev (fun k => laws_eqInt64S.f k l m) (decide (l = m)) := by
  unfold laws_eqInt64S.f
  by_cases e : l.length = m.length
  · refine ev_pos (by omega) ?_
    simpa using eqS_l0 l m e hl l.length 0 (by omega) (by omega) (by omega)
  · refine ev_neg (by omega) (ev_some ?_)
    exact (decide_eq_false fun h => e (by rw [h])).symm
theorem eqS_self (l : List Int) (hl : l.length < 9223372036854775807) : Ev (fun k => laws_eqInt64S.f k l l) true := by
  simpa using eqS l l hl
theorem szS (l : List Int) (hl : l.length ≤ maxLen) : laws_szInt64S.f l 1048576 = some (if l.length ≤ 1048576 then 1048576 - (l.length : Int) else -1) := by
  unfold maxLen at hl
  unfold laws_szInt64S.f
  rw [w64 (by omega) (by omega)]
  by_cases h : l.length ≤ 1048576
  · rw [if_neg (by omega), if_pos h]
  · rw [if_pos (by omega), if_neg h]
def marks (a : Int) (n : Nat) : List Int := (List.range n).map fun (j : Nat) => a + (j : Int)
theorem marks_length (a : Int) (n : Nat) : (marks a n).length = n := by simp [marks]
theorem marks_at (a : Int) (n j : Nat) (h : j < n) : (marks a n)[j]? = some (a + j) := by
  simp [marks, h]
theorem mark_l0 (n : Nat) (a : Int) (ha : 0 ≤ a) (hn : a + n < 9223372036854775807) (d : Nat) : ∀ (m : List Int) (i : Int), 0 ≤ i → i ≤ n → n - i = d → m.length = n → (∀ j, j < i.toNat → m[j]? = some (a + j)) →
    Ev (fun k => laws_markInt64S.l0 k m (a + i) i) (a + n, marks a n) := by
  induction d with
  | zero =>
    intro m i h0 h1 hd hm hj
    refine ev_k ?_
    simp only [laws_markInt64S.l0]
    refine ev_neg (by omega) (ev_some ?_)
    have : m = marks a n := by
      refine List.ext_getElem? fun j => ?_
      by_cases h : j < n
      · rw [hj j (by omega), marks_at a n j h]
      · rw [List.getElem?_eq_none (by omega), List.getElem?_eq_none (by rw [marks_length]; omega)]
    rw [this, show i = n by omega]
  | succ d ih =>
    intro m i h0 h1 hd hm hj
    refine ev_k ?_
    simp only [laws_markInt64S.l0]
    refine ev_pos (by omega) (ev_pos h0 ?_)
    rw [w64 (a := i + 1) (by omega) (by omega), w64 (a := a + i + 1) (by omega) (by omega), show a + i + 1 = a + (i + 1) by omega]
    refine ih _ (i + 1) (by omega) (by omega) (by omega) (by simpa using hm) fun j h => ?_
    rw [List.getElem?_set]
    split
    · subst_vars
      rw [if_pos (by omega), Int.toNat_of_nonneg h0]
    · exact hj j (by omega)
theorem markS (l : List Int) (a : Int) (ha : 0 ≤ a) (hn : a + l.length < 9223372036854775807) : Ev (fun k => laws_markInt64S.f k l a) (a + l.length, marks a l.length) := by
  unfold laws_markInt64S.f
  have h := mark_l0 l.length a ha hn l.length l 0 (by omega) (by omega) (by omega) rfl (fun j h => by simp at h)
  rwa [Int.add_zero] at h
theorem held_l0 (n : Nat) (a : Int) (ha : 0 ≤ a) (hn : a + n < 9223372036854775807) (d : Nat) : ∀ (i : Int), 0 ≤ i → i ≤ n → n - i = d →
    Ev (fun k => laws_heldInt64S.l0 k (marks a n) (a + i) i) (a + n) := by
  induction d with
  | zero =>
    intro i h0 h1 hd
    refine ev_k ?_
    simp only [laws_heldInt64S.l0]
    exact ev_neg (by rw [marks_length]; omega) (ev_some (by omega))
  | succ d ih =>
    intro i h0 h1 hd
    refine ev_k ?_
    simp only [laws_heldInt64S.l0]
    refine ev_pos (by rw [marks_length]; omega) (ev_pos h0 (ev_pos ?_ ?_))
    · have := marks_at a n i.toNat (by omega)
      simp only [rd, List.getD_eq_getElem?_getD, this, Option.getD_some]
      omega
    · rw [w64 (a := i + 1) (by omega) (by omega), w64 (a := a + i + 1) (by omega) (by omega), show a + i + 1 = a + (i + 1) by omega]
      exact ih (i + 1) (by omega) (by omega) (by omega)
theorem heldS (n : Nat) (a : Int) (ha : 0 ≤ a) (hn : a + n < 9223372036854775807) : Ev (fun k => laws_heldInt64S.f k (marks a n) a) (a + n) := by
  unfold laws_heldInt64S.f
  have h := held_l0 n a ha hn n 0 (by omega) (by omega) (by omega)
  rwa [Int.add_zero] at h
end Go.Proofs.YtcffgfomicpbfaaDoor.Q
namespace Go.Proofs.YtcffgfomicpbfaaDoor.Q
open Go Go.RowKit Go.Proofs.YtcffgfomicpbfaaDoor.P Go.Proofs.YtcffgfomicpbfaaDoorW.PrintWords Go.Proofs.YtcffgfomicpbfaaDoorW.PrintMore
theorem szG (n : Int) (l : List Int) (hl : l.length ≤ maxLen) : laws_szGraph.f n l 1048576 = some (if l.length ≤ 1048576 then 1048576 - (l.length : Int) else -1) := by
  unfold laws_szGraph.f
  rw [szS l hl]
  simp only [Option.bind_some]
  by_cases h : l.length ≤ 1048576
  · rw [if_pos h, if_neg (by omega)]
  · rw [if_neg h, if_pos (by decide)]
theorem toG (n : Int) (l : List Int) (hl : l.length ≤ 1048576) : Ev (fun m => laws_toGraph.f m n l) (n, l) := by
  unfold laws_toGraph.f
  exact Ev.bind (toS l (by omega)) (Ev.now _)
theorem eqG (n : Int) (l : List Int) (hl : l.length ≤ 1048576) : Ev (fun m => laws_eqGraph.f m n l n l) true := by
  unfold laws_eqGraph.f
  exact ev_pos rfl (Ev.bind (eqS_self l (by omega)) (ev_pos rfl (Ev.now _)))
theorem markG (n : Int) (l : List Int) (hl : l.length ≤ 1048576) : Ev (fun m => laws_markGraph.f m n l 1) (1 + (l.length : Int), marks 1 l.length) := by
  unfold laws_markGraph.f
  exact Ev.bind (markS l 1 (by omega) (by omega)) (Ev.now _)
theorem heldG (n : Int) (j : Nat) (hl : j ≤ 1048576) : Ev (fun m => laws_heldGraph.f m n (marks 1 j) 1) (1 + (j : Int)) := by
  unfold laws_heldGraph.f
  exact Ev.bind (heldS j 1 (by omega) (by omega)) (ev_neg (by omega) (Ev.now _))
end Go.Proofs.YtcffgfomicpbfaaDoor.Q
namespace Go.Proofs.YtcffgfomicpbfaaDoor.Pure
open Go Go.RowKit Go.Proofs.YtcffgfomicpbfaaDoor.P Go.Proofs.YtcffgfomicpbfaaDoorW.PrintWords Go.Proofs.YtcffgfomicpbfaaDoorW.PrintLast Go.Proofs.YtcffgfomicpbfaaDoorW.PrintMore Go.Proofs.YtcffgfomicpbfaaDoor.Q
theorem rdl1_mem {e : List (List Int)} {i : Int} (i0 : 0 ≤ i) (i1 : i < e.length) : rd_L1 e i ∈ e := by
  have : i.toNat < e.length := by omega
  simp only [rd_L1, List.getD_eq_getElem?_getD, List.getElem?_eq_getElem this, Option.getD_some]
  exact List.getElem_mem this
theorem edges_two {n : Int} {l : List Int} (h : rows n l) {i : Int} (i0 : 0 ≤ i) (i1 : i < (edgesTo l n.toNat).length) : (rd_L1 (edgesTo l n.toNat) i).length = 2 := by
  obtain ⟨v, w, hv, hw, _, e⟩ := (edgesTo_mem h n.toNat (by have := h.1; omega) _).1 (rdl1_mem i0 i1)
  rw [e]
  rfl
def share (e : List (List Int)) (a b : Int) : Prop := rd (rd_L1 e a) 0 = rd (rd_L1 e b) 0 ∨ rd (rd_L1 e a) 0 = rd (rd_L1 e b) 1 ∨ rd (rd_L1 e a) 1 = rd (rd_L1 e b) 0 ∨ rd (rd_L1 e a) 1 = rd (rd_L1 e b) 1
theorem share_sym (e : List (List Int)) (a b : Int) : share e a b ↔ share e b a := by
  unfold share
  constructor <;> (rintro (h | h | h | h) <;> simp [h])
theorem s_line {e : List (List Int)} (h2 : ∀ i : Int, 0 ≤ i → i < e.length → (rd_L1 e i).length = 2) (n : Int) (hn : (e.length : Int) = n) (n2 : n ≤ 62) : ∃ r, Mx n r (fun a b => a ≠ b ∧ share e a b) ∧ Ev (fun k => spec_LineGraph.l0 k e 0 n (List.replicate n.toNat 0)) (n, r, 0) :=
  s_made n (by omega) n2 (share e) (fun v w _ _ _ _ => share_sym e v w) (fun k v m => spec_LineGraph.l0 k e v n m) (fun k v u m => spec_LineGraph.l1 k e v u n m) (fun m => (n, m, 0))
    (fun m => by
      refine ev_k ?_
      simp only [spec_LineGraph.l0]
      exact ev_neg (by omega) (Ev.now _))
    (fun v m r v0 v1 h => by
      refine ev_k ?_
      simp only [spec_LineGraph.l0]
      exact ev_pos (by omega) h)
    (fun v m r v0 v1 h => by
      refine ev_k ?_
      simp only [spec_LineGraph.l1]
      rw [w64 (a := v + 1) (by omega) (by omega)]
      exact ev_neg (by omega) h)
    (fun v u m r u0 u1 v1 hm hQ h => by
      have lv := h2 v (by omega) (by omega)
      have lu := h2 u u0 (by omega)
      refine ev_k ?_
      simp only [spec_LineGraph.l1, s_put n m v u (by omega) (by omega) u0 (by omega) (by omega), Option.bind_some]
      rw [w64 (a := u + 1) (by omega) (by omega)]
      refine ev_pos u1 (ev_pos (by omega) (ev_pos (by omega) (ev_pos (by omega) (ev_pos (by omega) (ev_pos u0 (ev_pos (by omega) (ev_pos (by omega) (ev_pos (by omega) ?_))))))))
      by_cases q1 : rd (rd_L1 e v) 0 = rd (rd_L1 e u) 0
      · exact ev_pos q1 h
      refine ev_neg q1 ?_
      by_cases q2 : rd (rd_L1 e v) 0 = rd (rd_L1 e u) 1
      · exact ev_pos q2 h
      refine ev_neg q2 ?_
      by_cases q3 : rd (rd_L1 e v) 1 = rd (rd_L1 e u) 0
      · exact ev_pos q3 h
      refine ev_neg q3 ?_
      by_cases q4 : rd (rd_L1 e v) 1 = rd (rd_L1 e u) 1
      · exact ev_pos q4 h
      · exact absurd hQ (by unfold share; simp [q1, q2, q3, q4]))
    (fun v u m r u0 u1 v1 hm hQ h => by
      have lv := h2 v (by omega) (by omega)
      have lu := h2 u u0 (by omega)
      unfold share at hQ
      refine ev_k ?_
      simp only [spec_LineGraph.l1]
      rw [w64 (a := u + 1) (by omega) (by omega)]
      exact ev_pos u1 (ev_pos (by omega) (ev_pos (by omega) (ev_pos (by omega) (ev_pos (by omega) (ev_pos u0 (ev_pos (by omega) (ev_pos (by omega) (ev_pos (by omega) (ev_neg (fun z => hQ (.inl z)) (ev_neg (fun z => hQ (.inr (.inl z))) (ev_neg (fun z => hQ (.inr (.inr (.inl z)))) (ev_neg (fun z => hQ (.inr (.inr (.inr z)))) h)))))))))))))
theorem i_line {e : List (List Int)} (h2 : ∀ i : Int, 0 ≤ i → i < e.length → (rd_L1 e i).length = 2) (n : Int) (hn : (e.length : Int) = n) (n2 : n ≤ 62) : ∃ r, Mx n r (fun a b => a ≠ b ∧ share e a b) ∧ Ev (fun k => impl_made.f (impl_LineGraph.is e) k n) (n, r) :=
  i_made n (by omega) n2 (impl_LineGraph.is e) (share e) (fun v w _ _ _ _ => share_sym e v w) fun v w v0 v1 w1 => by
    have lv := h2 v v0 (by omega)
    have lw := h2 w (by omega) (by omega)
    unfold impl_LineGraph.is
    rw [if_pos v0, if_pos (by omega), if_pos (by omega), if_pos (by omega), if_pos (by omega), if_pos (by omega)]
    refine ⟨_, rfl, ?_⟩
    simp only [Bool.or_eq_true, beq_iff_eq, share]
theorem both (n : Int) (l : List Int) : ∃ m r q, r.length ≤ 1048576 ∧ Ev (fun k => spec_LineGraph.f k n l) (m, r, q) ∧ Ev (fun k => impl_LineGraph.f k n l) (m, r, q) := by
  unfold spec_LineGraph.f impl_LineGraph.f
  by_cases hg : isG n l
  · have hs := s_edges hg.1
    have hi := i_edges hg.1
    have h2 : ∀ i : Int, 0 ≤ i → i < (edgesTo l n.toNat).length → (rd_L1 (edgesTo l n.toNat) i).length = 2 := fun i i0 i1 => edges_two hg.1 i0 i1
    generalize edgesTo l n.toNat = e at hs hi h2
    by_cases hc : 1 ≤ (e.length : Int) ∧ (e.length : Int) ≤ 62
    · obtain ⟨r, hr, h1⟩ := s_line h2 e.length rfl hc.2
      obtain ⟨r', hr', h1'⟩ := i_line h2 e.length rfl hc.2
      obtain rfl := hr.eq hr' (by omega)
      exact ⟨e.length, r, 0, by have := hr.1; omega, Ev.bind (s_code9_yes hg) (ev_pos rfl (Ev.bind hs (ev_bind0 (s_told_yes hc) (ev_pos rfl (ev_bind0 (s_empty _ (by omega) hc.2) h1))))), Ev.bind ((i_is n l).yes hg) (ev_pos rfl (Ev.bind hi (ev_bind0 (i_limited_yes hc) (ev_pos rfl (Ev.bind h1' (Ev.now _))))))⟩
    · exact ⟨0, [], 3, by simp, Ev.bind (s_code9_yes hg) (ev_pos rfl (Ev.bind hs (ev_bind0 (s_told_no hc) (ev_neg (by decide) (Ev.now _))))), Ev.bind ((i_is n l).yes hg) (ev_pos rfl (Ev.bind hi (ev_bind0 (i_limited_no hc) (ev_neg (by decide) (Ev.now _)))))⟩
  · exact ⟨0, [], 1, by simp, Ev.bind (s_code9_no hg) (ev_neg (by decide) (Ev.now _)), Ev.bind ((i_is n l).no hg) (ev_neg (by decide) (Ev.now _))⟩
theorem FnExactLineGraph : ∀ (a0_0 : Int) (l0_1 : List Int), (Lit.int .i64 a0_0).wf = true → l0_1.length ≤ maxLen → (∀ x ∈ l0_1, (Lit.int .i64 x).wf = true) → ∃ k, laws_FnExactLineGraph.f k a0_0 l0_1 = some true := by
  intro n l _ hl _
  refine Ev.rounds ?_
  unfold laws_FnExactLineGraph.f
  rw [szG n l hl]
  simp only [Option.bind_some]
  by_cases hs : l.length ≤ 1048576
  · rw [if_pos hs]
    refine ev_neg (by omega) ?_
    obtain ⟨m, r, q, hr, h1, h2⟩ := both n l
    refine Ev.bind (toG n l hs) (Ev.bind h1 (Ev.bind (toG n l hs) (Ev.bind h2 (Ev.bind (eqG m r hr) (ev_pos rfl ?_)))))
    refine ev_k ?_
    simp only [laws_FnExactLineGraph.j0]
    refine ev_neg (by simp) (Ev.bind (toG n l hs) (Ev.bind (eqG n l hs) (ev_pos rfl (Ev.bind (markG n l hs) (ev_neg (by simp only []; omega) (Ev.bind (eqG m r hr) (ev_pos rfl ?_)))))))
    refine ev_k ?_
    simp only [laws_FnExactLineGraph.j1]
    refine ev_neg (by simp) (Ev.bind (markG m r hr) (Ev.bind (heldG m r.length hr) (ev_neg (by omega) (ev_pos rfl ?_))))
    refine Ev.bind (toG n l hs) (Ev.bind h2 (Ev.bind (eqG m r hr) (ev_pos rfl ?_)))
    refine ev_k ?_
    simp only [laws_FnExactLineGraph.j2]
    exact ev_neg (by simp) (Ev.bind (heldG m r.length hr) (ev_neg (by omega) (ev_pos rfl (Ev.now _))))
  · rw [if_neg hs]
    exact ev_pos (by decide) (Ev.now _)
end Go.Proofs.YtcffgfomicpbfaaDoor.Pure
