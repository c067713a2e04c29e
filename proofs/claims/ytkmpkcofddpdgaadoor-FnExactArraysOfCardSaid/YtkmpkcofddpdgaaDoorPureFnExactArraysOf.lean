/- The pure law and what it leans on, in one text (wip/bin/bundle). -/
import Derived.Test.YtkmpkcofddpdgaaDoorP118
import Derived.Test.YtkmpkcofddpdgaaDoorP119
import Derived.Test.YtkmpkcofddpdgaaDoorP101
import Derived.Test.YtkmpkcofddpdgaaDoorP103
import Derived.Test.YtkmpkcofddpdgaaDoorP68
import Derived.Test.YtkmpkcofddpdgaaDoorP50
import Derived.Test.YtkmpkcofddpdgaaDoorP51
import Derived.Test.YtkmpkcofddpdgaaDoorP52
import Derived.Test.YtkmpkcofddpdgaaDoorP58
import Derived.Test.YtkmpkcofddpdgaaDoorP57
import Derived.Test.YtkmpkcofddpdgaaDoorWA
import Derived.Test.YtkmpkcofddpdgaaDoorWBMore
import Derived.Laws.BitsLemmas
import Derived.Test.YtkmpkcofddpdgaaDoorP19
import Derived.Test.YtkmpkcofddpdgaaDoorP15
import Derived.Test.YtkmpkcofddpdgaaDoorP16
import Derived.Lib.TrailingZeros
import Derived.Test.YtkmpkcofddpdgaaDoorP4
import Derived.Test.YtkmpkcofddpdgaaDoorP5
import Derived.Test.YtkmpkcofddpdgaaDoorP48
import Derived.Test.YtkmpkcofddpdgaaDoorP55
import Derived.Test.YtkmpkcofddpdgaaDoorP56
import Derived.Test.YtkmpkcofddpdgaaDoorP49
import Derived.Test.YtkmpkcofddpdgaaDoorP12
import Derived.Test.YtkmpkcofddpdgaaDoorP2
import Derived.Test.YtkmpkcofddpdgaaDoorP3
import Derived.Test.YtkmpkcofddpdgaaDoorP1
import Derived.Test.YtkmpkcofddpdgaaDoorP11
import Derived.Test.YtkmpkcofddpdgaaDoorP23
import Derived.Test.YtkmpkcofddpdgaaDoorP24
import Derived.Test.YtkmpkcofddpdgaaDoorP10
import Derived.Test.YtkmpkcofddpdgaaDoorP22
import Derived.Test.YtkmpkcofddpdgaaDoorP25
namespace Go.Proofs.YtkmpkcofddpdgaaDoor.Q
open Go Go.RowKit Go.Proofs.YtkmpkcofddpdgaaDoorW.PrintWords Go.Proofs.YtkmpkcofddpdgaaDoorW.PrintMore
theorem ev_k {α : Type} {g : Nat → Option α} {r : α} (h : Ev (fun k => g (k + 1)) r) : Ev g r := Ev.step (fun _ => rfl) h
theorem ev_some {α : Type} {r s : α} (h : r = s) : Ev (fun _ => some r) s := h ▸ Ev.now r
theorem ev_pos {α : Type} {c : Prop} [Decidable c] {f g : Nat → Option α} {r : α} (h : c) (H : Ev f r) : Ev (fun k => if c then f k else g k) r :=
  Ev.congr (fun _ => if_pos h) H
theorem ev_neg {α : Type} {c : Prop} [Decidable c] {f g : Nat → Option α} {r : α} (h : ¬ c) (H : Ev g r) : Ev (fun k => if c then f k else g k) r :=
  Ev.congr (fun _ => if_neg h) H
theorem ev_ite {α : Type} {c : Prop} [Decidable c] {f g : Nat → Option α} {r : α} (h : c → Ev f r) (h' : ¬ c → Ev g r) : Ev (fun k => if c then f k else g k) r := by
  by_cases hc : c
  · exact ev_pos hc (h hc)
  · exact ev_neg hc (h' hc)
theorem ev_of {α : Type} {o : Option α} {r : α} (h : o = some r) : Ev (fun _ => o) r := ⟨0, fun _ _ => h⟩
theorem ev_bind0 {α β : Type} {o : Option α} {f : Nat → α → Option β} {a : α} {r : β} (h : o = some a) (H : Ev (fun n => f n a) r) : Ev (fun n => o.bind (f n)) r :=
  Ev.bind (ev_of h) H
theorem w64 {a : Int} (h0 : -9223372036854775808 ≤ a) (h1 : a < 9223372036854775808) : wrap64 a = a := by
  unfold wrap64
  omega
def Says (g : Nat → Option Bool) (P : Prop) : Prop := ∃ b : Bool, Ev g b ∧ (b = true ↔ P)
theorem says_iff {g : Nat → Option Bool} {P R : Prop} (h : P ↔ R) (H : Says g R) : Says g P := by
  obtain ⟨b, hb, e⟩ := H
  exact ⟨b, hb, e.trans h.symm⟩
theorem says_k {g : Nat → Option Bool} {P : Prop} (H : Says (fun k => g (k + 1)) P) : Says g P := by
  obtain ⟨b, hb, e⟩ := H
  exact ⟨b, ev_k hb, e⟩
theorem says_pos {c : Prop} [Decidable c] {f g : Nat → Option Bool} {P : Prop} (h : c) (H : Says f P) : Says (fun k => if c then f k else g k) P := by
  obtain ⟨b, hb, e⟩ := H
  exact ⟨b, ev_pos h hb, e⟩
theorem says_neg {c : Prop} [Decidable c] {f g : Nat → Option Bool} {P : Prop} (h : ¬ c) (H : Says g P) : Says (fun k => if c then f k else g k) P := by
  obtain ⟨b, hb, e⟩ := H
  exact ⟨b, ev_neg h hb, e⟩
theorem says_true {P : Prop} (h : P) : Says (fun _ => some true) P := ⟨true, Ev.now _, by simp [h]⟩
theorem says_false {P : Prop} (h : ¬ P) : Says (fun _ => some false) P := ⟨false, Ev.now _, by simp [h]⟩
theorem says_now (b : Bool) : Says (fun _ => some b) (b = true) := ⟨b, Ev.now _, Iff.rfl⟩
theorem says_bind {α : Type} {g : Nat → Option α} {f : Nat → α → Option Bool} {a : α} {P : Prop} (h : Ev g a) (H : Says (fun n => f n a) P) : Says (fun n => (g n).bind (f n)) P := by
  obtain ⟨b, hb, e⟩ := H
  exact ⟨b, Ev.bind h hb, e⟩
theorem Says.yes {g : Nat → Option Bool} {P : Prop} (H : Says g P) (h : P) : Ev g true := by
  obtain ⟨b, hb, e⟩ := H
  rw [e.2 h] at hb
  exact hb
theorem Says.no {g : Nat → Option Bool} {P : Prop} (H : Says g P) (h : ¬ P) : Ev g false := by
  obtain ⟨b, hb, e⟩ := H
  cases b with
  | true => exact absurd (e.1 rfl) h
  | false => exact hb
end Go.Proofs.YtkmpkcofddpdgaaDoor.Q
namespace Go.Proofs.YtkmpkcofddpdgaaDoor.Q
open Go Go.RowKit Go.Proofs.YtkmpkcofddpdgaaDoorW.PrintWords Go.Proofs.YtkmpkcofddpdgaaDoorW.PrintLast Go.Proofs.YtkmpkcofddpdgaaDoorW.PrintMore
def tb (x i : Int) : Bool := decide (x / 2 ^ i.toNat % 2 = 1)
theorem wu64 {a : Int} (h0 : 0 ≤ a) (h1 : a < 18446744073709551616) : IntKind.u64.wrap a = a := by
  simp [IntKind.wrap, IntKind.bits, IntKind.signed]
  omega
theorem w64' (a : Int) : IntKind.i64.wrap a = wrap64 a := by
  rw [IntKind.wrap_i64]
  unfold wrap64
  rfl
theorem and_one (a : Int) : bits .and .i64 a 1 = a % 2 := by
  have e : (BitVec.ofInt 64 a &&& BitVec.ofInt 64 1).toNat = (a % 2).toNat := by
    rw [BitVec.toNat_and, show (BitVec.ofInt 64 1).toNat = 1 from rfl, Nat.and_one_is_mod, BitVec.toNat_ofInt]
    omega
  show IntKind.i64.wrap (((BitVec.ofInt 64 a &&& BitVec.ofInt 64 1).toNat : Nat) : Int) = a % 2
  rw [e, w64']
  rw [w64] <;> omega
theorem shr_at {x i : Int} (i0 : 0 ≤ i) (i1 : i ≤ 63) : shr .i64 x i = x / 2 ^ i.toNat := by
  unfold shr
  rw [Nat.min_eq_left (by simp [IntKind.bits]; omega)]
theorem bit_at {x i : Int} (i0 : 0 ≤ i) (i1 : i ≤ 63) : bits .and .i64 (shr .i64 x i) 1 = if tb x i then 1 else 0 := by
  rw [and_one, shr_at i0 i1]
  unfold tb
  have := Int.emod_two_eq (x / 2 ^ i.toNat)
  rcases this with h | h <;> simp [h]
theorem bit_is {x i : Int} (i0 : 0 ≤ i) (i1 : i ≤ 63) : (bits .and .i64 (shr .i64 x i) 1 == 1) = tb x i := by
  rw [bit_at i0 i1]
  cases tb x i <;> rfl
theorem bit_eq {x y i j : Int} (i0 : 0 ≤ i) (i1 : i ≤ 63) (j0 : 0 ≤ j) (j1 : j ≤ 63) : bits .and .i64 (shr .i64 x i) 1 = bits .and .i64 (shr .i64 y j) 1 ↔ tb x i = tb y j := by
  rw [bit_at i0 i1, bit_at j0 j1]
  cases tb x i <;> cases tb y j <;> simp
theorem two_pow_le {n : Int} (h0 : 0 ≤ n) (h1 : n ≤ 62) : (1 : Int) ≤ 2 ^ n.toNat ∧ (2 : Int) ^ n.toNat ≤ 4611686018427387904 := by
  have e : ((2 : Int) ^ n.toNat) = ((2 ^ n.toNat : Nat) : Int) := by simp
  have a : 2 ^ n.toNat ≤ 2 ^ 62 := Nat.pow_le_pow_right (by decide) (by omega)
  have b : 1 ≤ 2 ^ n.toNat := Nat.one_le_two_pow
  rw [e]
  omega
theorem shl_one {n : Int} (h0 : 0 ≤ n) (h1 : n ≤ 62) : shl .i64 1 n = 2 ^ n.toNat := by
  have := two_pow_le h0 h1
  unfold shl
  rw [Nat.min_eq_left (by simp [IntKind.bits]; omega), Int.one_mul, w64', w64] <;> omega
theorem tb_nat (x i : Nat) : tb (x : Int) (i : Int) = x.testBit i := by
  unfold tb
  rw [Nat.testBit_eq_decide_div_mod_eq]
  have : ((x : Int) / 2 ^ i) % 2 = ((x / 2 ^ i % 2 : Nat) : Int) := by simp
  rw [Int.toNat_natCast, this]
  exact decide_eq_decide.2 (by omega)
theorem tb_toNat {x i : Int} (h0 : 0 ≤ x) (i0 : 0 ≤ i) : tb x i = x.toNat.testBit i.toNat := by
  rw [← tb_nat, Int.toNat_of_nonneg h0, Int.toNat_of_nonneg i0]
theorem tb_high {x i n : Int} (h0 : 0 ≤ x) (h1 : x < 2 ^ n.toNat) (n0 : 0 ≤ n) (hi : n ≤ i) : tb x i = false := by
  rw [tb_toNat h0 (by omega)]
  refine Nat.testBit_lt_two_pow ?_
  have e : ((2 : Int) ^ n.toNat) = ((2 ^ n.toNat : Nat) : Int) := by simp
  rw [e] at h1
  have : x.toNat < 2 ^ n.toNat := by omega
  exact Nat.lt_of_lt_of_le this (Nat.pow_le_pow_right (by decide) (by omega))
theorem tb_ext {x y n : Int} (x0 : 0 ≤ x) (x1 : x < 2 ^ n.toNat) (y0 : 0 ≤ y) (y1 : y < 2 ^ n.toNat) (n0 : 0 ≤ n) (h : ∀ i, 0 ≤ i → i < n → tb x i = tb y i) : x = y := by
  have : x.toNat = y.toNat := by
    refine Nat.eq_of_testBit_eq fun i => ?_
    by_cases hi : (i : Int) < n
    · have := h i (by omega) hi
      rwa [tb_toNat x0 (by omega), tb_toNat y0 (by omega), Int.toNat_natCast] at this
    · have a := tb_high (i := i) x0 x1 n0 (by omega)
      have b := tb_high (i := i) y0 y1 n0 (by omega)
      rw [tb_toNat x0 (by omega), Int.toNat_natCast] at a
      rw [tb_toNat y0 (by omega), Int.toNat_natCast] at b
      rw [a, b]
  omega
theorem and_nat (a b : Nat) (ha : a < 2 ^ 63) (hb : b < 2 ^ 63) : bits .and .i64 a b = ((a &&& b : Nat) : Int) :=
  (bits_nat .i64 63 (by decide) (fun n h0 h1 => by rw [w64', w64] <;> omega) a b ha hb).1
theorem or_nat (a b : Nat) (ha : a < 2 ^ 63) (hb : b < 2 ^ 63) : bits .or .i64 a b = ((a ||| b : Nat) : Int) :=
  (bits_nat .i64 63 (by decide) (fun n h0 h1 => by rw [w64', w64] <;> omega) a b ha hb).2
set_option linter.unusedVariables false in
theorem andNot_nat (a b : Nat) (ha : a < 2 ^ 63) (hb : b < 2 ^ 63) : ∃ c : Nat, bits .andNot .i64 a b = (c : Int) ∧ c < 2 ^ 63 ∧ ∀ i, c.testBit i = (a.testBit i && !b.testBit i) := by
  refine ⟨(BitVec.ofInt 64 a &&& ~~~ BitVec.ofInt 64 b).toNat, ?_, ?_, ?_⟩
  · show IntKind.i64.wrap (((BitVec.ofInt 64 a &&& ~~~ BitVec.ofInt 64 b).toNat : Nat) : Int) = _
    have : (BitVec.ofInt 64 a &&& ~~~ BitVec.ofInt 64 b).toNat < 2 ^ 63 := by
      simp only [BitVec.ofInt_natCast, BitVec.toNat_and, BitVec.toNat_ofNat]
      have : (a % 2 ^ 64 &&& (~~~ BitVec.ofNat 64 b).toNat) ≤ a % 2 ^ 64 := Nat.and_le_left
      have : a % 2 ^ 64 = a := Nat.mod_eq_of_lt (by omega)
      omega
    rw [w64', w64] <;> omega
  · simp only [BitVec.ofInt_natCast, BitVec.toNat_and, BitVec.toNat_ofNat]
    have : (a % 2 ^ 64 &&& (~~~ BitVec.ofNat 64 b).toNat) ≤ a % 2 ^ 64 := Nat.and_le_left
    have : a % 2 ^ 64 = a := Nat.mod_eq_of_lt (by omega)
    omega
  · intro i
    simp only [BitVec.ofInt_natCast]
    rw [BitVec.testBit_toNat, BitVec.getLsbD_and, BitVec.getLsbD_not, BitVec.getLsbD_ofNat, BitVec.getLsbD_ofNat]
    by_cases hi : i < 64
    · simp [hi]
    · simp [hi]
      intro h
      have := Nat.testBit_lt_two_pow (Nat.lt_of_lt_of_le ha (Nat.pow_le_pow_right (by decide) (show 63 ≤ i by omega)))
      simp [this] at h
end Go.Proofs.YtkmpkcofddpdgaaDoor.Q
namespace Go.Proofs.YtkmpkcofddpdgaaDoor.Q
open Go Go.RowKit Go.Proofs.YtkmpkcofddpdgaaDoorW.PrintWords
def rows (n : Int) (l : List Int) : Prop := 1 ≤ n ∧ n ≤ 62 ∧ (l.length : Int) = n ∧ ∀ v, 0 ≤ v → v < n → 0 ≤ rd l v ∧ rd l v < 2 ^ n.toNat
def isG (n : Int) (l : List Int) : Prop := rows n l ∧ (∀ v, 0 ≤ v → v < n → tb (rd l v) v = false) ∧ ∀ v w, 0 ≤ v → v < n → 0 ≤ w → w < n → tb (rd l v) w = tb (rd l w) v
theorem rows.nat {n : Int} {l : List Int} (h : rows n l) {v : Int} (h0 : 0 ≤ v) (h1 : v < n) : ∃ x : Nat, rd l v = (x : Int) ∧ x < 2 ^ n.toNat ∧ x < 2 ^ 62 := by
  obtain ⟨a, b, c, d⟩ := h
  obtain ⟨d0, d1⟩ := d v h0 h1
  have e : ((2 : Int) ^ n.toNat) = ((2 ^ n.toNat : Nat) : Int) := by simp
  have p : 2 ^ n.toNat ≤ 2 ^ 62 := Nat.pow_le_pow_right (by decide) (by omega)
  rw [e] at d1
  exact ⟨(rd l v).toNat, by omega, by omega, by omega⟩
end Go.Proofs.YtkmpkcofddpdgaaDoor.Q
namespace Go.Proofs.YtkmpkcofddpdgaaDoor.Q
open Go Go.RowKit Go.Proofs.YtkmpkcofddpdgaaDoorW.PrintWords Go.Proofs.YtkmpkcofddpdgaaDoorW.PrintMore
def Mx (n : Int) (l : List Int) (P : Int → Int → Prop) : Prop := (l.length : Int) = n ∧ ∀ v, 0 ≤ v → v < n → (0 ≤ rd l v ∧ rd l v < 2 ^ n.toNat) ∧ ∀ w, 0 ≤ w → w < n → (tb (rd l v) w = true ↔ P v w)
theorem Mx.imp {n : Int} {l : List Int} {P Q : Int → Int → Prop} (h : Mx n l P) (e : ∀ v w, 0 ≤ v → v < n → 0 ≤ w → w < n → (P v w ↔ Q v w)) : Mx n l Q :=
  ⟨h.1, fun v v0 v1 => ⟨(h.2 v v0 v1).1, fun w w0 w1 => ((h.2 v v0 v1).2 w w0 w1).trans (e v w v0 v1 w0 w1)⟩⟩
theorem rd_ext {a b : List Int} (hl : a.length = b.length) (h : ∀ v : Int, 0 ≤ v → v < a.length → rd a v = rd b v) : a = b := by
  refine List.ext_getElem hl fun i h1 h2 => ?_
  have := h i (by omega) (by omega)
  simpa [rd, List.getD_eq_getElem?_getD, h1, h2] using this
theorem Mx.eq {n : Int} {a b : List Int} {P : Int → Int → Prop} (ha : Mx n a P) (hb : Mx n b P) (n0 : 0 ≤ n) : a = b := by
  refine rd_ext (by have := ha.1; have := hb.1; omega) fun v v0 v1 => ?_
  have v1 : v < n := by have := ha.1; omega
  obtain ⟨⟨a0, a1⟩, a2⟩ := ha.2 v v0 v1
  obtain ⟨⟨b0, b1⟩, b2⟩ := hb.2 v v0 v1
  exact tb_ext a0 a1 b0 b1 n0 fun i i0 i1 => Bool.eq_iff_iff.2 ((a2 i i0 i1).trans (b2 i i0 i1).symm)
theorem Mx.zero (n : Int) (n0 : 0 ≤ n) : Mx n (List.replicate n.toNat 0) (fun _ _ => False) := by
  refine ⟨by simp; omega, fun v v0 v1 => ?_⟩
  have e : rd (List.replicate n.toNat 0) v = 0 := by
    have : v.toNat < n.toNat := by omega
    simp [rd, List.getD_eq_getElem?_getD, this]
  rw [e]
  have p : (0 : Int) < 2 ^ n.toNat := Int.pow_pos (by decide)
  refine ⟨⟨by omega, p⟩, fun w w0 w1 => ?_⟩
  simp [tb]
theorem Mx.rows {n : Int} {l : List Int} {P : Int → Int → Prop} (h : Mx n l P) (n1 : 1 ≤ n) (n2 : n ≤ 62) : rows n l := ⟨n1, n2, h.1, fun v v0 v1 => (h.2 v v0 v1).1⟩
theorem rd_set {l : List Int} {i j : Int} (x : Int) (i0 : 0 ≤ i) (i1 : i < l.length) (j0 : 0 ≤ j) : rd (l.set i.toNat x) j = if j = i then x else rd l j := by
  simp only [rd, List.getD_eq_getElem?_getD, List.getElem?_set]
  by_cases h : j = i
  · subst h
    rw [if_pos rfl, if_pos rfl, if_pos (by omega)]
    rfl
  · rw [if_neg h, if_neg (by omega)]
theorem or_one {n x j : Int} (n2 : n ≤ 62) (x0 : 0 ≤ x) (x1 : x < 2 ^ n.toNat) (j0 : 0 ≤ j) (j1 : j < n) : (0 ≤ bits .or .i64 x (shl .i64 1 j) ∧ bits .or .i64 x (shl .i64 1 j) < 2 ^ n.toNat) ∧ ∀ w, 0 ≤ w → (tb (bits .or .i64 x (shl .i64 1 j)) w = true ↔ tb x w = true ∨ w = j) := by
  have e : ((2 : Int) ^ n.toNat) = ((2 ^ n.toNat : Nat) : Int) := by simp
  have p : 2 ^ n.toNat ≤ 2 ^ 62 := Nat.pow_le_pow_right (by decide) (by omega)
  have q : 2 ^ j.toNat < 2 ^ n.toNat := Nat.pow_lt_pow_right (by decide) (by omega)
  rw [e] at x1 ⊢
  obtain ⟨y, rfl⟩ := Int.eq_ofNat_of_zero_le x0
  rw [shl_one j0 (by omega), show ((2 : Int) ^ j.toNat) = ((2 ^ j.toNat : Nat) : Int) by simp, or_nat y (2 ^ j.toNat) (by omega) (by omega)]
  refine ⟨⟨by omega, ?_⟩, fun w w0 => ?_⟩
  · have := Nat.or_lt_two_pow (show y < 2 ^ n.toNat by omega) q
    omega
  · obtain ⟨w, rfl⟩ := Int.eq_ofNat_of_zero_le w0
    rw [tb_nat, tb_nat, Nat.testBit_or, Nat.testBit_two_pow]
    simp only [Bool.or_eq_true, decide_eq_true_eq]
    refine or_congr Iff.rfl ?_
    omega
theorem Mx.or {n : Int} {l : List Int} {P : Int → Int → Prop} (h : Mx n l P) (n2 : n ≤ 62) {i j : Int} (i0 : 0 ≤ i) (i1 : i < n) (j0 : 0 ≤ j) (j1 : j < n) : Mx n (l.set i.toNat (bits .or .i64 (rd l i) (shl .i64 1 j))) (fun v w => P v w ∨ (v = i ∧ w = j)) := by
  refine ⟨by simpa using h.1, fun v v0 v1 => ?_⟩
  rw [rd_set _ i0 (by have := h.1; omega) v0]
  obtain ⟨⟨a0, a1⟩, a2⟩ := h.2 v v0 v1
  by_cases hv : v = i
  · rw [if_pos hv]
    subst hv
    obtain ⟨b, b2⟩ := or_one n2 a0 a1 j0 j1
    exact ⟨b, fun w w0 w1 => (b2 w w0).trans (or_congr (a2 w w0 w1) (by simp))⟩
  · rw [if_neg hv]
    exact ⟨⟨a0, a1⟩, fun w w0 w1 => (a2 w w0 w1).trans (by simp [hv])⟩
end Go.Proofs.YtkmpkcofddpdgaaDoor.Q
namespace Go.Proofs.YtkmpkcofddpdgaaDoor.Q
open Go Go.RowKit Go.Proofs.YtkmpkcofddpdgaaDoor.P Go.Proofs.YtkmpkcofddpdgaaDoorW.PrintWords Go.Proofs.YtkmpkcofddpdgaaDoorW.PrintMore
def IsMax (r : List Int) (m : Int) : Prop := (∀ j : Int, 0 ≤ j → j < r.length → rd r j ≤ m) ∧ ∃ j : Int, 0 ≤ j ∧ j < r.length ∧ m = rd r j
theorem IsMax.uniq {r : List Int} {a b : Int} (ha : IsMax r a) (hb : IsMax r b) : a = b := by
  obtain ⟨a1, i, i0, i1, ia⟩ := ha
  obtain ⟨b1, j, j0, j1, jb⟩ := hb
  have := a1 j j0 j1
  have := b1 i i0 i1
  omega
open Classical in
noncomputable def top (r : List Int) : Int := if h : ∃ m, IsMax r m then h.choose else 0
theorem top_eq {r : List Int} {m : Int} (h : IsMax r m) : top r = m := by
  have hex : ∃ m, IsMax r m := ⟨m, h⟩
  unfold top
  rw [dif_pos hex]
  exact hex.choose_spec.uniq h
theorem r_max_l0 (l : List Int) (hl : l.length ≤ 1152921504606846976) (d : Nat) : ∀ (m i : Int), 0 ≤ i → i ≤ l.length → l.length - i = d → ∃ r, Ev (fun k => slices_Max_int64_int64.l0 k l m i) r ∧ m ≤ r ∧ (∀ j : Int, i ≤ j → j < l.length → rd l j ≤ r) ∧ (r = m ∨ ∃ j : Int, i ≤ j ∧ j < l.length ∧ r = rd l j) := by
  induction d with
  | zero =>
    intro m i i0 i1 hd
    refine ⟨m, ev_k ?_, by omega, fun j _ _ => by omega, .inl rfl⟩
    simp only [slices_Max_int64_int64.l0]
    exact ev_neg (by omega) (Ev.now _)
  | succ d ih =>
    intro m i i0 i1 hd
    obtain ⟨r, hr, r1, r2, r3⟩ := ih (mx m (rd l i)) (i + 1) (by omega) (by omega) (by omega)
    have e : m ≤ mx m (rd l i) ∧ rd l i ≤ mx m (rd l i) ∧ (mx m (rd l i) = m ∨ mx m (rd l i) = rd l i) := by
      unfold mx
      split <;> omega
    refine ⟨r, ev_k ?_, by omega, fun j j0 j1 => if h : j = i then by rw [h]; omega else r2 j (by omega) j1, ?_⟩
    · simp only [slices_Max_int64_int64.l0]
      rw [w64 (a := i + 1) (by omega) (by omega)]
      exact ev_pos (by omega) (ev_pos i0 hr)
    · rcases r3 with h | ⟨j, j0, j1, h⟩
      · rcases e.2.2 with e | e
        · exact .inl (h.trans e)
        · exact .inr ⟨i, by omega, by omega, h.trans e⟩
      · exact .inr ⟨j, by omega, j1, h⟩
theorem r_max (l : List Int) (hl : l.length ≤ 1152921504606846976) (h0 : 0 < l.length) : ∃ r, Ev (fun k => slices_Max_int64_int64.f k l) r ∧ IsMax l r := by
  obtain ⟨r, hr, r1, r2, r3⟩ := r_max_l0 l hl (l.length - 1) (rd l 0) 1 (by omega) (by omega) (by omega)
  refine ⟨r, ?_, fun j j0 j1 => if h : j = 0 then by rw [h]; exact r1 else r2 j (by omega) j1, ?_⟩
  · unfold slices_Max_int64_int64.f
    exact ev_neg (by omega) (ev_pos (by omega) hr)
  · rcases r3 with h | ⟨j, j0, j1, h⟩
    · exact ⟨0, by omega, by omega, h⟩
    · exact ⟨j, by omega, j1, h⟩
end Go.Proofs.YtkmpkcofddpdgaaDoor.Q
namespace Go.Proofs.YtkmpkcofddpdgaaDoor.Q
open Go Go.RowKit Go.Proofs.YtkmpkcofddpdgaaDoorW.PrintWords Go.Proofs.YtkmpkcofddpdgaaDoorW.PrintMore
def Wk (n : Int) (l : List Int) (s : Int) : Nat → Int → Prop
  | 0, u => u = s
  | k + 1, u => (0 ≤ u ∧ u < n) ∧ ∃ w, (0 ≤ w ∧ w < n) ∧ Wk n l s k w ∧ tb (rd l w) u = true
def Ds (n : Int) (l : List Int) (s : Int) (d : Nat) (u : Int) : Prop := Wk n l s d u ∧ ∀ j, j < d → ¬ Wk n l s j u
theorem Ds.uniq {n : Int} {l : List Int} {s u : Int} {d e : Nat} (h : Ds n l s d u) (g : Ds n l s e u) : d = e := by
  rcases Nat.lt_trichotomy d e with z | z | z
  · exact absurd h.1 (g.2 d z)
  · exact z
  · exact absurd g.1 (h.2 e z)
theorem Wk.range {n : Int} {l : List Int} {s : Int} (s0 : 0 ≤ s) (s1 : s < n) {k : Nat} {u : Int} (h : Wk n l s k u) : 0 ≤ u ∧ u < n := by
  cases k with
  | zero => cases h; exact ⟨s0, s1⟩
  | succ k => exact h.1
theorem Wk.least {n : Int} {l : List Int} {s u : Int} (k : Nat) (h : Wk n l s k u) : ∃ d, d ≤ k ∧ Ds n l s d u := by
  induction k using Nat.strongRecOn with
  | _ k ih =>
    by_cases hj : ∃ j, j < k ∧ Wk n l s j u
    · obtain ⟨j, hj, hw⟩ := hj
      obtain ⟨d, hd, h2⟩ := ih j hj hw
      exact ⟨d, by omega, h2⟩
    · exact ⟨k, Nat.le_refl _, h, fun j hj' hw => hj ⟨j, hj', hw⟩⟩
theorem Ds.ahead {n : Int} {l : List Int} {s u : Int} {d : Nat} (h : Ds n l s (d + 1) u) : ∃ w, (0 ≤ w ∧ w < n) ∧ Ds n l s d w ∧ tb (rd l w) u = true := by
  obtain ⟨⟨hu, w, hw, hk, ht⟩, hm⟩ := h
  refine ⟨w, hw, ⟨hk, fun j hj hwj => hm (j + 1) (by omega) ⟨hu, w, hw, hwj, ht⟩⟩, ht⟩
theorem Ds.stops {n : Int} {l : List Int} {s : Int} {d : Nat} (h : ∀ w, ¬ Ds n l s d w) : ∀ e, d ≤ e → ∀ u, ¬ Ds n l s e u := by
  intro e he
  induction e with
  | zero =>
    obtain rfl : d = 0 := by omega
    exact h
  | succ e ih =>
    by_cases z : d = e + 1
    · subst z
      exact h
    · intro u hu
      obtain ⟨w, _, hw, _⟩ := hu.ahead
      exact ih (by omega) w hw
theorem Ds.next {n : Int} {l : List Int} {s u : Int} {d : Nat} (hu : 0 ≤ u ∧ u < n) : Ds n l s (d + 1) u ↔ (∃ w, (0 ≤ w ∧ w < n) ∧ Ds n l s d w ∧ tb (rd l w) u = true) ∧ ¬ ∃ j, j ≤ d ∧ Wk n l s j u := by
  constructor
  · intro h
    exact ⟨h.ahead, fun ⟨j, hj, hw⟩ => h.2 j (by omega) hw⟩
  · rintro ⟨⟨w, hw, hd, ht⟩, hno⟩
    exact ⟨⟨hu, w, hw, hd.1, ht⟩, fun j hj hwj => hno ⟨j, by omega, hwj⟩⟩
def DistL (n : Int) (l : List Int) (s : Int) (ds : List Int) : Prop := (ds.length : Int) = n ∧ ∀ u, 0 ≤ u → u < n → (rd ds u = -1 ∧ ∀ j, ¬ Wk n l s j u) ∨ ∃ d : Nat, rd ds u = (d : Int) ∧ Ds n l s d u
theorem DistL.eq {n : Int} {l : List Int} {s : Int} {a b : List Int} (ha : DistL n l s a) (hb : DistL n l s b) : a = b := by
  refine rd_ext (by have := ha.1; have := hb.1; omega) fun v v0 v1 => ?_
  have v1 : v < n := by have := ha.1; omega
  rcases ha.2 v v0 v1 with ⟨e, h⟩ | ⟨d, e, h⟩ <;> rcases hb.2 v v0 v1 with ⟨f, g⟩ | ⟨c, f, g⟩
  · rw [e, f]
  · exact absurd g.1 (h c)
  · exact absurd h.1 (g d)
  · rw [e, f, h.uniq g]
theorem Ds.zero (n : Int) (l : List Int) (s u : Int) : Ds n l s 0 u ↔ u = s := ⟨fun h => h.1, fun h => ⟨h, fun j hj => by omega⟩⟩
theorem Wk.front {n : Int} {l : List Int} {s w : Int} (hs : 0 ≤ s ∧ s < n) (hw : 0 ≤ w ∧ w < n) (ht : tb (rd l s) w = true) : ∀ (k : Nat) (u : Int), Wk n l w k u → Wk n l s (k + 1) u := by
  intro k
  induction k with
  | zero =>
    intro u hu
    cases hu
    exact ⟨hw, s, hs, rfl, ht⟩
  | succ k ih =>
    rintro u ⟨hu, x, hx, hk, hx2⟩
    exact ⟨hu, x, hx, ih x hk, hx2⟩
theorem Wk.back {n : Int} {l : List Int} (hg : ∀ v w, 0 ≤ v → v < n → 0 ≤ w → w < n → tb (rd l v) w = tb (rd l w) v) {s : Int} : ∀ (k : Nat) (u : Int), Wk n l s k u → Wk n l u k s := by
  intro k
  induction k with
  | zero => intro u hu; exact hu.symm
  | succ k ih =>
    rintro u ⟨hu, w, hw, hk, ht⟩
    exact Wk.front hu hw (by rw [hg u w hu.1 hu.2 hw.1 hw.2]; exact ht) k s (ih w hk)
theorem Ds.back {n : Int} {l : List Int} (hg : ∀ v w, 0 ≤ v → v < n → 0 ≤ w → w < n → tb (rd l v) w = tb (rd l w) v) {s u : Int} {d : Nat} (h : Ds n l s d u) : Ds n l u d s :=
  ⟨Wk.back hg d u h.1, fun j hj hw => h.2 j hj (Wk.back hg j s hw)⟩
structure Dist (n : Int) (l : List Int) (s : Int) (r : List Int) : Prop where
  len : (r.length : Int) = n
  src : ∀ u, 0 ≤ u → u < n → (rd r u = 0 ↔ u = s)
  next : ∀ (d u : Int), 0 ≤ d → 0 ≤ u → u < n → (rd r u = d + 1 ↔ (∃ w, (0 ≤ w ∧ w < n) ∧ rd r w = d ∧ tb (rd l w) u = true) ∧ ¬ (0 ≤ rd r u ∧ rd r u ≤ d))
  low : ∀ u, 0 ≤ u → u < n → -1 ≤ rd r u
  stops : ∀ d, 0 ≤ d → (∀ u, 0 ≤ u → u < n → rd r u ≠ d) → ∀ u, 0 ≤ u → u < n → rd r u < d
theorem DistL.ds {n : Int} {l : List Int} {s : Int} {r : List Int} (h : DistL n l s r) {u : Int} (u0 : 0 ≤ u) (u1 : u < n) (d : Nat) : rd r u = (d : Int) ↔ Ds n l s d u := by
  rcases h.2 u u0 u1 with ⟨e, g⟩ | ⟨c, e, g⟩
  · exact ⟨fun z => by omega, fun z => absurd z.1 (g d)⟩
  · constructor
    · intro z
      have : c = d := by omega
      exact this ▸ g
    · intro z
      rw [e, g.uniq z]
theorem DistL.met {n : Int} {l : List Int} {s : Int} {r : List Int} (h : DistL n l s r) {u : Int} (u0 : 0 ≤ u) (u1 : u < n) (d : Nat) : (0 ≤ rd r u ∧ rd r u ≤ (d : Int)) ↔ ∃ j, j ≤ d ∧ Wk n l s j u := by
  constructor
  · intro z
    have := (h.ds u0 u1 (rd r u).toNat).1 (by omega)
    exact ⟨(rd r u).toNat, by omega, this.1⟩
  · rintro ⟨j, hj, hw⟩
    obtain ⟨c, hc, hd⟩ := hw.least
    have := (h.ds u0 u1 c).2 hd
    omega
theorem DistL.dist {n : Int} {l : List Int} {s : Int} {r : List Int} (h : DistL n l s r) : Dist n l s r where
  len := h.1
  src := fun u u0 u1 => (h.ds u0 u1 0).trans (Ds.zero n l s u)
  next := fun d u d0 u0 u1 => by
    obtain ⟨d, rfl⟩ := Int.eq_ofNat_of_zero_le d0
    have a := h.ds u0 u1 (d + 1)
    rw [show ((d + 1 : Nat) : Int) = (d : Int) + 1 by omega] at a
    rw [a, Ds.next ⟨u0, u1⟩, h.met u0 u1]
    refine and_congr ⟨?_, ?_⟩ Iff.rfl
    · rintro ⟨w, hw, hd, ht⟩
      exact ⟨w, hw, (h.ds hw.1 hw.2 d).2 hd, ht⟩
    · rintro ⟨w, hw, hd, ht⟩
      exact ⟨w, hw, (h.ds hw.1 hw.2 d).1 hd, ht⟩
  low := fun u u0 u1 => by
    rcases h.2 u u0 u1 with ⟨e, _⟩ | ⟨c, e, _⟩ <;> omega
  stops := fun d d0 hd u u0 u1 => by
    obtain ⟨d, rfl⟩ := Int.eq_ofNat_of_zero_le d0
    rcases h.2 u u0 u1 with ⟨e, _⟩ | ⟨c, e, g⟩
    · omega
    · by_cases z : c < d
      · omega
      · refine absurd g ?_
        refine Ds.stops (d := d) (fun w hw => ?_) c (by omega) u
        have hr : 0 ≤ w ∧ w < n := by
          cases d with
          | zero =>
            have hs : w = s := hw.1
            by_cases hc : 0 ≤ s ∧ s < n
            · rw [hs]; exact hc
            · exfalso
              have key : ∀ (c : Nat) (u : Int), 0 ≤ u → u < n → ¬ Ds n l s c u := by
                intro c
                induction c with
                | zero => intro u u0 u1 z; have : u = s := z.1; exact hc ⟨by omega, by omega⟩
                | succ c ih => intro u u0 u1 z; obtain ⟨w, hw, hd, _⟩ := z.ahead; exact ih w hw.1 hw.2 hd
              exact key c u u0 u1 g
          | succ d => exact hw.1.1
        exact hd w hr.1 hr.2 ((h.ds hr.1 hr.2 d).2 hw)
open Classical in
theorem distL_exists (n : Int) (l : List Int) (s : Int) (n0 : 0 ≤ n) : ∃ r, DistL n l s r := by
  let f : Nat → Int := fun u => if h : ∃ d : Nat, Ds n l s d (u : Int) then (h.choose : Int) else -1
  refine ⟨(List.range n.toNat).map f, by simp; omega, fun u u0 u1 => ?_⟩
  have e : rd ((List.range n.toNat).map f) u = f u.toNat := by
    have : u.toNat < n.toNat := by omega
    simp [rd, List.getD_eq_getElem?_getD, this]
  rw [e]
  have hu : ((u.toNat : Nat) : Int) = u := Int.toNat_of_nonneg u0
  show _ ∨ _
  by_cases h : ∃ d : Nat, Ds n l s d ((u.toNat : Nat) : Int)
  · refine .inr ⟨h.choose, dif_pos h, ?_⟩
    have go : ∀ (c : Nat) (z : Int), z = u → Ds n l s c z → Ds n l s c u := fun c z e h => e ▸ h
    exact go _ _ hu h.choose_spec
  · refine .inl ⟨dif_neg h, fun j hj => h ?_⟩
    obtain ⟨d, _, hd⟩ := hj.least
    exact ⟨d, by rwa [hu]⟩
theorem length_of_all (K : Nat) : ∀ xs : List Nat, (∀ d, d < K → d ∈ xs) → K ≤ xs.length := by
  induction K with
  | zero => intro xs _; omega
  | succ K ih =>
    intro xs h
    have hm := h K (by omega)
    have := ih (xs.erase K) fun d hd => (List.mem_erase_of_ne (by omega)).2 (h d (by omega))
    have := List.length_erase_of_mem hm
    have := List.length_pos_of_mem hm
    omega
theorem Dist.level {n : Int} {l : List Int} {s : Int} {r : List Int} (h : Dist n l s r) (D : Nat) : ∀ u, 0 ≤ u → u < n → rd r u = (D : Int) → ∀ d, d ≤ D → ∃ w, (0 ≤ w ∧ w < n) ∧ rd r w = (d : Int) := by
  induction D with
  | zero => intro u u0 u1 hu d hd; exact ⟨u, ⟨u0, u1⟩, by rw [hu]; omega⟩
  | succ D ih =>
    intro u u0 u1 hu d hd
    by_cases e : d = D + 1
    · exact ⟨u, ⟨u0, u1⟩, by rw [hu, e]⟩
    · obtain ⟨⟨w, hw, hd', _⟩, _⟩ := (h.next D u (by omega) u0 u1).1 (by rw [hu]; omega)
      exact ih w hw.1 hw.2 hd' d (by omega)
theorem Dist.small {n : Int} {l : List Int} {s : Int} {r : List Int} (h : Dist n l s r) : ∀ u, 0 ≤ u → u < n → rd r u < n := by
  intro u u0 u1
  by_cases z : rd r u < 0
  · omega
  · have lv := h.level (rd r u).toNat u u0 u1 (by omega)
    have := length_of_all ((rd r u).toNat + 1) (r.map Int.toNat) fun d hd => by
      obtain ⟨w, hw, e⟩ := lv d (by omega)
      have hl := h.len
      have hwl : w.toNat < r.length := by omega
      have e2 : rd r w = r[w.toNat] := by simp [rd, List.getD_eq_getElem?_getD, List.getElem?_eq_getElem hwl]
      exact List.mem_map.2 ⟨r[w.toNat], List.getElem_mem _, by rw [← e2, e]; omega⟩
    rw [List.length_map] at this
    have := h.len
    omega
end Go.Proofs.YtkmpkcofddpdgaaDoor.Q
namespace Go.Proofs.YtkmpkcofddpdgaaDoor.Q
open Go Go.RowKit Go.Proofs.YtkmpkcofddpdgaaDoorW.PrintWords Go.Proofs.YtkmpkcofddpdgaaDoorW.PrintMore
def Rw (n x : Int) : Prop := 0 ≤ x ∧ x < 2 ^ n.toNat
theorem Rw.nat {n x : Int} (n2 : n ≤ 62) (h : Rw n x) : ∃ y : Nat, x = (y : Int) ∧ y < 2 ^ n.toNat ∧ y < 2 ^ 62 := by
  obtain ⟨h0, h1⟩ := h
  have e : ((2 : Int) ^ n.toNat) = ((2 ^ n.toNat : Nat) : Int) := by simp
  have p : 2 ^ n.toNat ≤ 2 ^ 62 := Nat.pow_le_pow_right (by decide) (by omega)
  rw [e] at h1
  exact ⟨x.toNat, by omega, by omega, by omega⟩
theorem Rw.of {n : Int} {y : Nat} (h : y < 2 ^ n.toNat) : Rw n (y : Int) := by
  have e : ((2 : Int) ^ n.toNat) = ((2 ^ n.toNat : Nat) : Int) := by simp
  exact ⟨by omega, by rw [e]; omega⟩
theorem or_rw {n x y : Int} (n2 : n ≤ 62) (hx : Rw n x) (hy : Rw n y) : Rw n (bits .or .i64 x y) ∧ ∀ w, 0 ≤ w → (tb (bits .or .i64 x y) w = true ↔ tb x w = true ∨ tb y w = true) := by
  obtain ⟨a, rfl, a1, a2⟩ := hx.nat n2
  obtain ⟨b, rfl, b1, b2⟩ := hy.nat n2
  rw [or_nat a b (by omega) (by omega)]
  refine ⟨Rw.of (Nat.or_lt_two_pow a1 b1), fun w w0 => ?_⟩
  obtain ⟨w, rfl⟩ := Int.eq_ofNat_of_zero_le w0
  rw [tb_nat, tb_nat, tb_nat, Nat.testBit_or]
  simp
theorem andNot_rw {n x y : Int} (n2 : n ≤ 62) (hx : Rw n x) (hy : Rw n y) : Rw n (bits .andNot .i64 x y) ∧ ∀ w, 0 ≤ w → (tb (bits .andNot .i64 x y) w = true ↔ tb x w = true ∧ ¬ tb y w = true) := by
  obtain ⟨a, rfl, a1, a2⟩ := hx.nat n2
  obtain ⟨b, rfl, b1, b2⟩ := hy.nat n2
  obtain ⟨c, e, _, hc⟩ := andNot_nat a b (by omega) (by omega)
  rw [e]
  have c1 : c < 2 ^ n.toNat := by
    refine Nat.lt_pow_two_of_testBit _ fun i hi => ?_
    rw [hc, Nat.testBit_lt_two_pow (Nat.lt_of_lt_of_le a1 (Nat.pow_le_pow_right (by decide) hi))]
    rfl
  refine ⟨Rw.of c1, fun w w0 => ?_⟩
  obtain ⟨w, rfl⟩ := Int.eq_ofNat_of_zero_le w0
  rw [tb_nat, tb_nat, tb_nat, hc]
  simp
theorem one_rw {n j : Int} (n2 : n ≤ 62) (j0 : 0 ≤ j) (j1 : j < n) : Rw n (shl .i64 1 j) ∧ ∀ w, 0 ≤ w → (tb (shl .i64 1 j) w = true ↔ w = j) := by
  rw [shl_one j0 (by omega), show ((2 : Int) ^ j.toNat) = ((2 ^ j.toNat : Nat) : Int) by simp]
  refine ⟨Rw.of (Nat.pow_lt_pow_right (by decide) (by omega)), fun w w0 => ?_⟩
  obtain ⟨w, rfl⟩ := Int.eq_ofNat_of_zero_le w0
  rw [tb_nat, Nat.testBit_two_pow]
  simp
  omega
theorem zero_rw (n : Int) : Rw n 0 ∧ ∀ w, ¬ tb 0 w = true := by
  have p : (0 : Int) < 2 ^ n.toNat := Int.pow_pos (by decide)
  exact ⟨⟨by omega, p⟩, fun w => by simp [tb]⟩
theorem Rw.eq_zero {n x : Int} (n0 : 0 ≤ n) (hx : Rw n x) : x = 0 ↔ ∀ w, 0 ≤ w → w < n → ¬ tb x w = true := by
  constructor
  · rintro rfl w _ _
    exact (zero_rw n).2 w
  · intro h
    exact tb_ext hx.1 hx.2 (zero_rw n).1.1 (zero_rw n).1.2 n0 fun i i0 i1 => by
      have a := h i i0 i1
      have b := (zero_rw n).2 i
      simp at a b
      rw [a, b]
end Go.Proofs.YtkmpkcofddpdgaaDoor.Q
namespace Go.Proofs.YtkmpkcofddpdgaaDoor.Q
open Go Go.RowKit Go.Proofs.YtkmpkcofddpdgaaDoor.P Go.Proofs.YtkmpkcofddpdgaaDoorW.PrintWords Go.Proofs.YtkmpkcofddpdgaaDoorW.PrintMore
def onesFrom (x : Nat) : Nat → Nat → List Int
  | 0, _ => []
  | d + 1, m => if x.testBit m then (m : Int) :: onesFrom x d (m + 1) else onesFrom x d (m + 1)
theorem onesFrom_zero (d : Nat) : ∀ m, onesFrom 0 d m = [] := by
  induction d with
  | zero => intro m; rfl
  | succ d ih => intro m; simp [onesFrom, ih]
theorem onesFrom_congr (x y : Nat) (d : Nat) : ∀ m, (∀ i, m ≤ i → x.testBit i = y.testBit i) → onesFrom x d m = onesFrom y d m := by
  induction d with
  | zero => intro m _; rfl
  | succ d ih =>
    intro m h
    simp only [onesFrom]
    rw [h m (Nat.le_refl _), ih (m + 1) fun i hi => h i (by omega)]
theorem ctz_at {x m : Nat} (hx : x < 2 ^ 64) (hb : x.testBit m = true) (hl : ∀ i, i < m → x.testBit i = false) : Lib.ctz 64 x = m ∧ ∃ q, x = 2 ^ m * (2 * q + 1) := by
  have h0 : x ≠ 0 := by rintro rfl; simp at hb
  obtain ⟨q, e, _⟩ := Lib.ctzFrom_spec 64 x (by omega) hx
  have ec : Lib.ctz 64 x = Lib.ctzFrom 64 x := by simp [Lib.ctz, h0]
  have ht : ∀ i, x.testBit i = (decide (i ≥ Lib.ctzFrom 64 x) && (2 * q + 1).testBit (i - Lib.ctzFrom 64 x)) := fun i => by rw [← Nat.testBit_two_pow_mul, ← e]
  generalize Lib.ctzFrom 64 x = c at *
  have hc : c = m := by
    rcases Nat.lt_trichotomy c m with h | h | h
    · have a := hl c h
      rw [ht c] at a
      simp at a
    · exact h
    · rw [ht m] at hb
      have : ¬ m ≥ c := by omega
      simp [this] at hb
  subst hc
  exact ⟨ec, q, e⟩
theorem and_pred {m q : Nat} : (2 ^ m * (2 * q + 1)) &&& (2 ^ m * (2 * q + 1) - 1) = 2 ^ m * (2 * q) := by
  have p := Nat.two_pow_pos m
  have e : 2 ^ m * (2 * q + 1) - 1 = 2 ^ m * (2 * q) + (2 ^ m - 1) := by rw [Nat.mul_add]; omega
  rw [e]
  refine Nat.eq_of_testBit_eq fun i => ?_
  rw [Nat.testBit_and, Nat.testBit_two_pow_mul, Nat.testBit_two_pow_mul_add _ (by omega), Nat.testBit_two_pow_mul]
  by_cases h : i < m
  · have : ¬ i ≥ m := by omega
    simp [this]
  · have : i ≥ m := by omega
    simp only [this, decide_true, Bool.true_and, h, if_false]
    cases i - m with
    | zero => simp
    | succ j => simp [Nat.testBit_succ]; rw [show (2 * q + 1) / 2 = q by omega]; simp
theorem pred_bit {m q i : Nat} (h : m < i) : (2 ^ m * (2 * q)).testBit i = (2 ^ m * (2 * q + 1)).testBit i := by
  rw [Nat.testBit_two_pow_mul, Nat.testBit_two_pow_mul]
  obtain ⟨j, hj⟩ : ∃ j, i - m = j + 1 := ⟨i - m - 1, by omega⟩
  rw [hj, Nat.testBit_succ, Nat.testBit_succ, show (2 * q + 1) / 2 = 2 * q / 2 by omega]
theorem pred_low {m q i : Nat} (h : i < m + 1) : (2 ^ m * (2 * q)).testBit i = false := by
  rw [Nat.testBit_two_pow_mul]
  by_cases e : i = m
  · subst e
    simp
  · have : ¬ i ≥ m := by omega
    simp [this]
theorem i_list_l0 (d : Nat) : ∀ (m x : Nat) (acc : List Int), d + m = 62 → x < 2 ^ 62 → (∀ i, i < m → x.testBit i = false) → acc.length ≤ m → Ev (fun k => impl_list.l0 k (x : Int) acc) (acc ++ onesFrom x d m) := by
  have done : ∀ d m (acc : List Int), Ev (fun k => impl_list.l0 k ((0 : Nat) : Int) acc) (acc ++ onesFrom 0 d m) := by
    intro d m acc
    rw [onesFrom_zero, List.append_nil]
    refine ev_k ?_
    simp only [impl_list.l0]
    exact ev_pos rfl (Ev.now _)
  induction d with
  | zero =>
    intro m x acc hd hx hl ha
    have : x = 0 := by
      refine Nat.eq_of_testBit_eq fun i => ?_
      rw [Nat.zero_testBit]
      by_cases hi : i < m
      · exact hl i hi
      · exact Nat.testBit_lt_two_pow (Nat.lt_of_lt_of_le hx (Nat.pow_le_pow_right (by decide) (by omega)))
    subst this
    exact done 0 m acc
  | succ d ih =>
    intro m x acc hd hx hl ha
    by_cases hb : x.testBit m = true
    · obtain ⟨hc, q, e⟩ := ctz_at (Nat.lt_trans hx (by decide)) hb hl
      have x0 : x ≠ 0 := by rintro rfl; simp at hb
      have hq : 2 ^ m * (2 * q) < 2 ^ 62 := Nat.lt_of_le_of_lt (Nat.mul_le_mul_left _ (by omega)) (e ▸ hx)
      have := ih (m + 1) (2 ^ m * (2 * q)) (acc ++ [(m : Int)]) (by omega) hq (fun i hi => pred_low hi) (by simp; omega)
      have e2 : acc ++ onesFrom x (d + 1) m = acc ++ [(m : Int)] ++ onesFrom (2 ^ m * (2 * q)) d (m + 1) := by
        simp only [onesFrom, hb, if_true]
        rw [onesFrom_congr x (2 ^ m * (2 * q)) d (m + 1) fun i hi => by rw [pred_bit (by omega), ← e]]
        simp
      rw [e2]
      refine ev_k ?_
      simp only [impl_list.l0]
      refine ev_neg (by omega) ?_
      rw [wu64 (a := (x : Int)) (by omega) (by omega), w64 (a := (x : Int) - 1) (by omega) (by omega), show (x : Int) - 1 = ((x - 1 : Nat) : Int) by omega, and_nat x (x - 1) (by omega) (by omega)]
      have ex : x &&& (x - 1) = 2 ^ m * (2 * q) := by rw [e]; exact and_pred
      rw [ex]
      refine ev_bind0 (a := (m : Int)) ?_ (ev_pos (by omega) this)
      unfold bits_TrailingZeros64.f
      rw [if_pos (by omega), if_pos (by omega), Int.toNat_natCast, hc]
    · have := ih (m + 1) x acc (by omega) hx (fun i hi => if h : i = m then by rw [h]; simpa using hb else hl i (by omega)) (by omega)
      have e : onesFrom x (d + 1) m = onesFrom x d (m + 1) := by simp [onesFrom, hb]
      rwa [e]
def ones (x : Int) : List Int := onesFrom x.toNat 62 0
theorem i_list {x : Int} (h0 : 0 ≤ x) (h1 : x < 4611686018427387904) : Ev (fun k => impl_list.f k x) (ones x) := by
  obtain ⟨y, rfl⟩ := Int.eq_ofNat_of_zero_le h0
  unfold impl_list.f ones
  rw [Int.toNat_natCast]
  have := i_list_l0 62 0 y [] (by omega) (by omega) (fun i hi => by omega) (by simp)
  simpa using this
theorem onesFrom_mem (x : Nat) (d : Nat) : ∀ m (v : Int), v ∈ onesFrom x d m ↔ ∃ i : Nat, v = (i : Int) ∧ m ≤ i ∧ i < m + d ∧ x.testBit i = true := by
  induction d with
  | zero => intro m v; simp [onesFrom]; intro i _ _; omega
  | succ d ih =>
    intro m v
    simp only [onesFrom]
    have s : (∃ i : Nat, v = (i : Int) ∧ m ≤ i ∧ i < m + (d + 1) ∧ x.testBit i = true) ↔ (v = (m : Int) ∧ x.testBit m = true) ∨ ∃ i : Nat, v = (i : Int) ∧ m + 1 ≤ i ∧ i < m + 1 + d ∧ x.testBit i = true := by
      constructor
      · rintro ⟨i, rfl, h1, h2, h3⟩
        by_cases e : i = m
        · subst e
          exact .inl ⟨rfl, h3⟩
        · exact .inr ⟨i, rfl, by omega, by omega, h3⟩
      · rintro (⟨rfl, h⟩ | ⟨i, rfl, h1, h2, h3⟩)
        · exact ⟨m, rfl, by omega, by omega, h⟩
        · exact ⟨i, rfl, by omega, by omega, h3⟩
    rw [s, ← ih]
    by_cases h : x.testBit m = true
    · rw [if_pos h]
      simp [h]
    · rw [if_neg h]
      simp [h]
theorem ones_mem {n x : Int} (n0 : 0 ≤ n) (n2 : n ≤ 62) (x0 : 0 ≤ x) (x1 : x < 2 ^ n.toNat) (v : Int) : v ∈ ones x ↔ 0 ≤ v ∧ v < n ∧ tb x v = true := by
  unfold ones
  rw [onesFrom_mem]
  constructor
  · rintro ⟨i, rfl, h1, h2, h3⟩
    have ht : tb x i = true := by rw [tb_toNat x0 (by omega)]; simpa using h3
    refine ⟨by omega, ?_, ht⟩
    by_cases h : (i : Int) < n
    · exact h
    · rw [tb_high x0 x1 n0 (by omega)] at ht
      cases ht
  · rintro ⟨h1, h2, h3⟩
    refine ⟨v.toNat, by omega, by omega, by omega, ?_⟩
    rwa [tb_toNat x0 h1] at h3
theorem onesFrom_length (x : Nat) (d : Nat) : ∀ m, (onesFrom x d m).length ≤ d := by
  induction d with
  | zero => intro m; simp [onesFrom]
  | succ d ih =>
    intro m
    simp only [onesFrom]
    have := ih (m + 1)
    split <;> simp <;> omega
theorem ones_length (x : Int) : (ones x).length ≤ 62 := onesFrom_length _ 62 0
theorem onesFrom_high (x : Nat) (d e : Nat) : ∀ m, x < 2 ^ (m + d) → onesFrom x (d + e) m = onesFrom x d m := by
  induction d with
  | zero =>
    intro m h
    rw [Nat.zero_add]
    induction e generalizing m with
    | zero => rfl
    | succ e ihe =>
      have hb : x.testBit m = false := Nat.testBit_lt_two_pow h
      simp only [onesFrom, hb]
      rw [ihe (m + 1) (Nat.lt_of_lt_of_le h (Nat.pow_le_pow_right (by decide) (by omega)))]
      simp [onesFrom]
  | succ d ih =>
    intro m h
    rw [show d + 1 + e = (d + e) + 1 by omega]
    simp only [onesFrom]
    rw [ih (m + 1) (by rwa [show m + 1 + d = m + (d + 1) by omega])]
theorem ones_to {n x : Int} (n0 : 0 ≤ n) (n2 : n ≤ 62) (x0 : 0 ≤ x) (x1 : x < 2 ^ n.toNat) : ones x = onesFrom x.toNat n.toNat 0 := by
  unfold ones
  have e : ((2 : Int) ^ n.toNat) = ((2 ^ n.toNat : Nat) : Int) := by simp
  rw [e] at x1
  have := onesFrom_high x.toNat n.toNat (62 - n.toNat) 0 (by rw [Nat.zero_add]; omega)
  rwa [show n.toNat + (62 - n.toNat) = 62 by omega] at this
theorem onesFrom_add (x a b : Nat) : ∀ m, onesFrom x (a + b) m = onesFrom x a m ++ onesFrom x b (m + a) := by
  induction a with
  | zero => intro m; simp [onesFrom]
  | succ a ih =>
    intro m
    rw [show a + 1 + b = (a + b) + 1 by omega]
    simp only [onesFrom]
    rw [ih (m + 1), show m + 1 + a = m + (a + 1) by omega]
    split <;> simp
end Go.Proofs.YtkmpkcofddpdgaaDoor.Q
namespace Go.Proofs.YtkmpkcofddpdgaaDoor.Q
open Go Go.RowKit Go.Proofs.YtkmpkcofddpdgaaDoor.P Go.Proofs.YtkmpkcofddpdgaaDoorW.PrintWords Go.Proofs.YtkmpkcofddpdgaaDoorW.PrintMore
def Is (n x : Int) (P : Int → Prop) : Prop := Rw n x ∧ ∀ u, 0 ≤ u → u < n → (tb x u = true ↔ P u)
theorem Is.imp {n x : Int} {P Q : Int → Prop} (h : Is n x P) (e : ∀ u, 0 ≤ u → u < n → (P u ↔ Q u)) : Is n x Q := ⟨h.1, fun u u0 u1 => (h.2 u u0 u1).trans (e u u0 u1)⟩
theorem level_next {n : Int} {l : List Int} {s : Int} {r : List Int} (hr : Dist n l s r) {d S X : Int} (d0 : 0 ≤ d) (hX : Is n X fun u => ∃ w, (0 ≤ w ∧ w < n) ∧ rd r w = d ∧ tb (rd l w) u = true) (u : Int) (u0 : 0 ≤ u) (u1 : u < n) (hS : tb S u = true ↔ 0 ≤ rd r u ∧ rd r u ≤ d) : ((tb S u = true ∨ tb X u = true) ↔ 0 ≤ rd r u ∧ rd r u ≤ d + 1) ∧ ((tb X u = true ∧ ¬ tb S u = true) ↔ rd r u = d + 1) := by
  have a := hr.next d u d0 u0 u1
  rw [hS, hX.2 u u0 u1]
  constructor
  · constructor
    · rintro (z | z)
      · omega
      · by_cases q : 0 ≤ rd r u ∧ rd r u ≤ d
        · omega
        · have := a.2 ⟨z, q⟩
          omega
    · intro z
      by_cases q : 0 ≤ rd r u ∧ rd r u ≤ d
      · exact .inl q
      · exact .inr (a.1 (by omega)).1
  · exact a.symm
section
variable {n : Int} {l : List Int} (h : rows n l) {s : Int} (s0 : 0 ≤ s) (s1 : s < n) {r : List Int} (hr : Dist n l s r)
include h hr
theorem i_distances_l0 (M : Nat) (hM : ∀ u, 0 ≤ u → u < n → rd r u < (M : Int)) (e : Nat) : ∀ (d : Nat) (ds : List Int) (S L : Int), (M : Int) - d = e → (d : Int) ≤ 1000000 → (M : Int) ≤ 1000000 → (ds.length : Int) = n → (∀ u, 0 ≤ u → u < n → rd ds u = if 0 ≤ rd r u ∧ rd r u < d then rd r u else -1) → Is n S (fun u => 0 ≤ rd r u ∧ rd r u ≤ d) → Is n L (fun u => rd r u = d) → Ev (fun k => impl_Graph_distances.l0 k ds S L d n l) r := by
  have n2 := h.2.1
  have hl := h.2.2.1
  have n0 : 0 ≤ n := by have := h.1; omega
  have stop : ∀ (d : Nat) (ds : List Int) (S : Int), (ds.length : Int) = n → (∀ u, 0 ≤ u → u < n → rd ds u = if 0 ≤ rd r u ∧ rd r u < d then rd r u else -1) → (∀ u, 0 ≤ u → u < n → rd r u ≠ d) → Ev (fun k => impl_Graph_distances.l0 k ds S 0 d n l) r := by
    intro d ds S hlen hds hno
    have : ds = r := by
      refine rd_ext (by have := hr.len; omega) fun u u0 u1 => ?_
      have u1 : u < n := by omega
      rw [hds u u0 u1]
      have a := hr.stops d (by omega) hno u u0 u1
      have b := hr.low u u0 u1
      split <;> omega
    subst this
    refine ev_k ?_
    simp only [impl_Graph_distances.l0]
    exact ev_pos trivial (Ev.now _)
  induction e with
  | zero =>
    intro d ds S L he hd hM2 hlen hds hS hL
    have hno : ∀ u, 0 ≤ u → u < n → rd r u ≠ d := fun u u0 u1 => by have := hM u u0 u1; omega
    have : L = 0 := (hL.1.eq_zero n0).2 fun w w0 w1 z => hno w w0 w1 ((hL.2 w w0 w1).1 z)
    subst this
    exact stop d ds S hlen hds hno
  | succ e ih =>
    intro d ds S L he hd hM2 hlen hds hS hL
    by_cases hz : L = 0
    · subst hz
      exact stop d ds S hlen hds fun u u0 u1 z => (hL.1.eq_zero n0).1 rfl u u0 u1 ((hL.2 u u0 u1).2 z)
    · have hp := two_pow_le (n := n) n0 n2
      have inner : ∀ (ws pre ds : List Int) (X : Int), pre ++ ws = ones L → (ds.length : Int) = n → (∀ u, 0 ≤ u → u < n → rd ds u = if (0 ≤ rd r u ∧ rd r u < d) ∨ u ∈ pre then rd r u else -1) → Is n X (fun u => ∃ w, w ∈ pre ∧ tb (rd l w) u = true) → Ev (fun k => impl_Graph_distances.l1 k ds S d X (ones L) (ones L).length pre.length n l) r := by
        intro ws
        have ol := ones_length L
        have om := fun v => ones_mem n0 n2 hL.1.1 hL.1.2 v
        induction ws with
        | nil =>
          intro pre ds X hpre hlen hds hX
          rw [List.append_nil] at hpre
          subst hpre
          have hX2 : Is n X fun u => ∃ w, (0 ≤ w ∧ w < n) ∧ rd r w = d ∧ tb (rd l w) u = true := hX.imp fun u u0 u1 => by
            constructor
            · rintro ⟨w, hw, ht⟩
              obtain ⟨a, b, c⟩ := (om w).1 hw
              exact ⟨w, ⟨a, b⟩, (hL.2 w a b).1 c, ht⟩
            · rintro ⟨w, ⟨a, b⟩, c, ht⟩
              exact ⟨w, (om w).2 ⟨a, b, (hL.2 w a b).2 c⟩, ht⟩
          have o := or_rw n2 hS.1 hX.1
          have q := andNot_rw n2 hX.1 hS.1
          refine ev_k ?_
          simp only [impl_Graph_distances.l1]
          refine ev_neg (by omega) ?_
          rw [w64 (a := (d : Int) + 1) (by omega) (by omega)]
          refine ih (d + 1) ds _ _ (by omega) (by omega) hM2 hlen (fun u u0 u1 => ?_) ⟨o.1, fun u u0 u1 => ?_⟩ ⟨q.1, fun u u0 u1 => ?_⟩
          · rw [hds u u0 u1]
            have z : u ∈ ones L ↔ rd r u = d := (om u).trans ⟨fun z => (hL.2 u u0 u1).1 z.2.2, fun z => ⟨u0, u1, (hL.2 u u0 u1).2 z⟩⟩
            by_cases q : u ∈ ones L
            · have := z.1 q
              rw [if_pos (.inr q), if_pos (by omega)]
            · have q2 : rd r u ≠ d := fun e => q (z.2 e)
              by_cases p : 0 ≤ rd r u ∧ rd r u < d
              · rw [if_pos (.inl p), if_pos (by omega)]
              · rw [if_neg (by rintro (a | a); exact p a; exact q a), if_neg (by omega)]
          · rw [o.2 u u0]
            exact ((level_next hr (by omega) hX2 u u0 u1 (hS.2 u u0 u1)).1).trans (by omega)
          · rw [q.2 u u0]
            exact ((level_next hr (by omega) hX2 u u0 u1 (hS.2 u u0 u1)).2).trans (by omega)
        | cons w ws ihw =>
          intro pre ds X hpre hlen hds hX
          have hlt : pre.length < (ones L).length := by rw [← hpre]; simp
          have hw : rd (ones L) pre.length = w := by
            rw [← hpre]
            simp [rd, List.getD_eq_getElem?_getD]
          obtain ⟨w0, w1, wt⟩ := (om w).1 (by rw [← hpre]; simp)
          have hwd := (hL.2 w w0 w1).1 wt
          have o := or_rw n2 hX.1 (h.2.2.2 w w0 w1)
          refine ev_k ?_
          simp only [impl_Graph_distances.l1, hw]
          refine ev_pos (by omega) (ev_pos (by omega) (ev_pos (by omega) (ev_pos w0 (ev_pos (by omega) (ev_pos (by omega) ?_)))))
          rw [w64 (a := (pre.length : Int) + 1) (by omega) (by omega)]
          have := ihw (pre ++ [w]) (ds.set w.toNat d) (bits .or .i64 X (rd l w)) (by rw [← hpre]; simp) (by simpa using hlen) (fun u u0 u1 => ?_) ⟨o.1, fun u u0 u1 => ?_⟩
          · simpa using this
          · rw [rd_set _ w0 (by omega) u0]
            by_cases e : u = w
            · subst e
              rw [if_pos rfl, if_pos (.inr (by simp)), hwd]
            · rw [if_neg e, hds u u0 u1]
              simp [e]
          · rw [o.2 u u0, hX.2 u u0 u1]
            constructor
            · rintro (⟨x, hx, ht⟩ | ht)
              · exact ⟨x, by simp [hx], ht⟩
              · exact ⟨w, by simp, ht⟩
            · rintro ⟨x, hx, ht⟩
              rcases List.mem_append.1 hx with hx | hx
              · exact .inl ⟨x, hx, ht⟩
              · obtain rfl : x = w := by simpa using hx
                exact .inr ht
      refine ev_k ?_
      simp only [impl_Graph_distances.l0]
      refine ev_neg hz (Ev.bind (i_list hL.1.1 (by have := hL.1.2; omega)) ?_)
      have := inner (ones L) [] ds 0 (by simp) hlen (fun u u0 u1 => by rw [hds u u0 u1]; simp) ⟨(zero_rw n).1, fun u u0 u1 => ⟨fun z => absurd z ((zero_rw n).2 u), fun ⟨w, hw, _⟩ => by cases hw⟩⟩
      simpa using this
include s0 s1
theorem i_distances : Ev (fun k => impl_Graph_distances.f k n l s) r := by
  have n2 := h.2.1
  have n0 : 0 ≤ n := by have := h.1; omega
  have hb : ∀ u, 0 ≤ u → u < n → rd r u < 1000000 := fun u u0 u1 => by have := hr.small u u0 u1; omega
  obtain ⟨o1, o2⟩ := one_rw n2 s0 s1
  unfold impl_Graph_distances.f
  refine ev_bind0 (a := List.replicate n.toNat (-1)) ?_ (ev_pos s0 ?_)
  · unfold slices_Repeat_int64_int64.f
    rw [if_pos (show ([-1] : List Int).length = 1 from rfl), if_pos n0, if_pos (by omega)]
    rfl
  · refine i_distances_l0 h hr 1000000 hb 1000000 0 _ _ _ (by omega) (by omega) (by omega) (by simp; omega) (fun u u0 u1 => ?_) ⟨o1, fun u u0 u1 => ?_⟩ ⟨o1, fun u u0 u1 => ?_⟩
    · have : u.toNat < n.toNat := by omega
      rw [if_neg (by omega)]
      simp [rd, List.getD_eq_getElem?_getD, this]
    · rw [o2 u u0, ← hr.src u u0 u1]
      omega
    · rw [o2 u u0, ← hr.src u u0 u1]
      omega
end
end Go.Proofs.YtkmpkcofddpdgaaDoor.Q
namespace Go.Proofs.YtkmpkcofddpdgaaDoor.Q
open Go Go.RowKit Go.Proofs.YtkmpkcofddpdgaaDoorW.PrintWords Go.Proofs.YtkmpkcofddpdgaaDoorW.PrintMore
theorem rd_app_left {q : List Int} {u : Int} {i : Int} (i0 : 0 ≤ i) (i1 : i < q.length) : rd (q ++ [u]) i = rd q i := by
  simp only [rd, List.getD_eq_getElem?_getD]
  rw [List.getElem?_append_left (by omega)]
theorem rd_app_last (q : List Int) (u : Int) : rd (q ++ [u]) q.length = u := by
  simp [rd, List.getD_eq_getElem?_getD]
theorem rd_mem {q : List Int} {i : Int} (i0 : 0 ≤ i) (i1 : i < q.length) : rd q i ∈ q := by
  have hu : i.toNat < q.length := by omega
  have : rd q i = q[i.toNat] := by simp [rd, List.getD_eq_getElem?_getD, List.getElem?_eq_getElem hu]
  rw [this]
  exact List.getElem_mem _
theorem mem_rd {q : List Int} {u : Int} (h : u ∈ q) : ∃ i : Int, (0 ≤ i ∧ i < q.length) ∧ rd q i = u := by
  obtain ⟨i, hi, rfl⟩ := List.getElem_of_mem h
  exact ⟨i, by omega, by simp [rd, List.getD_eq_getElem?_getD, List.getElem?_eq_getElem hi]⟩
structure QI (n : Int) (l : List Int) (s : Int) (r ds q : List Int) (i : Int) : Prop where
  len : (ds.length : Int) = n
  at0 : 0 ≤ i ∧ i ≤ q.length
  val : ∀ u, 0 ≤ u → u < n → rd ds u = -1 ∨ (rd ds u = rd r u ∧ 0 ≤ rd r u)
  mem : ∀ u, u ∈ q ↔ (0 ≤ u ∧ u < n) ∧ 0 ≤ rd ds u
  mono : ∀ a b : Int, 0 ≤ a → a ≤ b → b < q.length → rd r (rd q a) ≤ rd r (rd q b)
  top : i < q.length → ∀ b : Int, 0 ≤ b → b < q.length → rd r (rd q b) ≤ rd r (rd q i) + 1
  clos : ∀ a : Int, 0 ≤ a → a < i → ∀ u, 0 ≤ u → u < n → tb (rd l (rd q a)) u = true → 0 ≤ rd ds u
  met : i < q.length → ∀ u, 0 ≤ u → u < n → 0 ≤ rd r u → rd r u ≤ rd r (rd q i) → 0 ≤ rd ds u
  cnt : ds.count (-1) + q.length = n
  src : s ∈ q
section
variable {n : Int} {l : List Int} {s : Int} {r : List Int} (hr : Dist n l s r)
theorem QI.head {ds q : List Int} {i : Int} (h : QI n l s r ds q i) (hi : i < q.length) : (0 ≤ rd q i ∧ rd q i < n) ∧ rd ds (rd q i) = rd r (rd q i) ∧ 0 ≤ rd r (rd q i) := by
  obtain ⟨hw, h0⟩ := (h.mem (rd q i)).1 (rd_mem h.at0.1 hi)
  rcases h.val _ hw.1 hw.2 with e | e
  · omega
  · exact ⟨hw, e.1, e.2⟩
include hr
theorem QI.add {ds q : List Int} {i : Int} (h : QI n l s r ds q i) (hi : i < q.length) {u : Int} (u0 : 0 ≤ u) (u1 : u < n) (ht : tb (rd l (rd q i)) u = true) (hu : rd ds u < 0) : rd r u = rd r (rd q i) + 1 ∧ QI n l s r (ds.set u.toNat (rd r u)) (q ++ [u]) i := by
  obtain ⟨hw, hd, h0⟩ := h.head hi
  have i0 := h.at0.1
  have hnext := hr.next (rd r (rd q i)) u h0 u0 u1
  have e : rd r u = rd r (rd q i) + 1 := by
    refine hnext.2 ⟨⟨rd q i, hw, rfl, ht⟩, fun z => ?_⟩
    have := h.met hi u u0 u1 z.1 z.2
    omega
  have hlen := h.len
  have hs : ∀ v, 0 ≤ v → rd (ds.set u.toNat (rd r u)) v = if v = u then rd r u else rd ds v := fun v v0 => rd_set _ u0 (by omega) v0
  have nm : ∀ v, 0 ≤ v → 0 ≤ rd ds v → 0 ≤ rd (ds.set u.toNat (rd r u)) v := fun v v0 z => by
    rw [hs v v0]
    split <;> omega
  have len2 : ((q ++ [u]).length : Int) = q.length + 1 := by simp
  refine ⟨e, ⟨by simpa using hlen, by omega, fun v v0 v1 => ?_, fun v => ?_, fun a b a0 ab b1 => ?_, fun _ b b0 b1 => ?_, fun a a0 a1 v v0 v1 tv => ?_, fun _ v v0 v1 z y => ?_, ?_, by simp [h.src]⟩⟩
  · rw [hs v v0]
    by_cases z : v = u
    · rw [if_pos z, z]
      exact .inr ⟨rfl, by omega⟩
    · rw [if_neg z]
      exact h.val v v0 v1
  · rw [List.mem_append, List.mem_singleton, h.mem v]
    constructor
    · rintro (⟨z, y⟩ | rfl)
      · exact ⟨z, nm v z.1 y⟩
      · exact ⟨⟨u0, u1⟩, by rw [hs v u0, if_pos rfl]; omega⟩
    · rintro ⟨z, y⟩
      by_cases q : v = u
      · exact .inr q
      · rw [hs v z.1, if_neg q] at y
        exact .inl ⟨z, y⟩
  · by_cases hb : b = q.length
    · subst hb
      rw [rd_app_last]
      by_cases ha : a = q.length
      · subst ha
        rw [rd_app_last]
        omega
      · rw [rd_app_left a0 (by omega), e]
        exact h.top hi a a0 (by omega)
    · rw [rd_app_left a0 (by omega), rd_app_left (by omega) (by omega)]
      exact h.mono a b a0 ab (by omega)
  · rw [rd_app_left (q := q) (i := i) i0 hi]
    by_cases hb : b = q.length
    · subst hb
      rw [rd_app_last]
      omega
    · rw [rd_app_left b0 (by omega)]
      exact h.top hi b b0 (by omega)
  · rw [rd_app_left a0 (by omega)] at tv
    exact nm v v0 (h.clos a a0 a1 v v0 v1 tv)
  · rw [rd_app_left (q := q) (i := i) i0 hi] at y
    exact nm v v0 (h.met hi v v0 v1 z y)
  · have hul : u.toNat < ds.length := by omega
    have e1 : ds[u.toNat] = -1 := by
      have := h.val u u0 u1
      have e2 : rd ds u = ds[u.toNat] := by simp [rd, List.getD_eq_getElem?_getD, List.getElem?_eq_getElem hul]
      omega
    have c := List.count_set (a := rd r u) (b := (-1 : Int)) hul
    have cp : 0 < ds.count (-1) := List.count_pos_iff.2 (by rw [← e1]; exact List.getElem_mem _)
    rw [e1, if_pos (by simp), if_neg (by simp; omega)] at c
    have := h.cnt
    rw [c, List.length_append]
    simp
    omega
theorem QI.step {ds q : List Int} {i : Int} (h : QI n l s r ds q i) (hi : i < q.length) (hp : ∀ u, 0 ≤ u → u < n → tb (rd l (rd q i)) u = true → 0 ≤ rd ds u) : QI n l s r ds q (i + 1) := by
  obtain ⟨hw, hd, h0⟩ := h.head hi
  have i0 := h.at0.1
  have hcl : ∀ a : Int, 0 ≤ a → a < i + 1 → ∀ u, 0 ≤ u → u < n → tb (rd l (rd q a)) u = true → 0 ≤ rd ds u := fun a a0 a1 u u0 u1 tu => by
    by_cases e : a = i
    · subst e
      exact hp u u0 u1 tu
    · exact h.clos a a0 (by omega) u u0 u1 tu
  refine ⟨h.len, by omega, h.val, h.mem, h.mono, fun hi2 b b0 b1 => ?_, hcl, fun hi2 u u0 u1 z y => ?_, h.cnt, h.src⟩
  · have a := h.mono i (i + 1) i0 (by omega) hi2
    have c := h.top hi b b0 b1
    omega
  · have a := h.mono i (i + 1) i0 (by omega) hi2
    have c := h.top hi (i + 1) (by omega) hi2
    by_cases e : rd r u ≤ rd r (rd q i)
    · exact h.met hi u u0 u1 z e
    · obtain ⟨⟨w, hw, hwd, ht⟩, _⟩ := (hr.next (rd r (rd q i)) u h0 u0 u1).1 (by omega)
      have hwq : w ∈ q := (h.mem w).2 ⟨hw, h.met hi w hw.1 hw.2 (by omega) (by omega)⟩
      obtain ⟨a, ha, hae⟩ := mem_rd hwq
      have : a < i + 1 := by
        by_cases z2 : a < i + 1
        · exact z2
        · have := h.mono (i + 1) a (by omega) (by omega) ha.2
          rw [hae] at this
          omega
      rw [← hae] at ht
      exact hcl a ha.1 this u u0 u1 ht
theorem QI.done {ds q : List Int} {i : Int} (h : QI n l s r ds q i) (hi : ¬ i < q.length) : ds = r := by
  have hall : ∀ (d : Nat) (u : Int), 0 ≤ u → u < n → rd r u = (d : Int) → 0 ≤ rd ds u := by
    intro d
    induction d with
    | zero =>
      intro u u0 u1 hu
      have := (hr.src u u0 u1).1 hu
      subst this
      exact ((h.mem _).1 h.src).2
    | succ d ih =>
      intro u u0 u1 hu
      obtain ⟨⟨w, hw, hwd, ht⟩, _⟩ := (hr.next d u (by omega) u0 u1).1 (by omega)
      obtain ⟨a, ha, hae⟩ := mem_rd ((h.mem w).2 ⟨hw, ih w hw.1 hw.2 hwd⟩)
      rw [← hae] at ht
      exact h.clos a ha.1 (by omega) u u0 u1 ht
  refine rd_ext (by have := h.len; have := hr.len; omega) fun u u0 u1 => ?_
  have u1 : u < n := by have := h.len; omega
  have lw := hr.low u u0 u1
  rcases h.val u u0 u1 with e | e
  · by_cases z : rd r u < 0
    · omega
    · have := hall (rd r u).toNat u u0 u1 (by omega)
      omega
  · exact e.1
theorem QI.start (s0 : 0 ≤ s) (s1 : s < n) : QI n l s r ((List.replicate n.toNat (-1)).set s.toNat 0) [s] 0 := by
  have hs : ∀ v, 0 ≤ v → v < n → rd ((List.replicate n.toNat (-1)).set s.toNat 0) v = if v = s then 0 else -1 := fun v v0 v1 => by
    rw [rd_set _ s0 (by simp; omega) v0]
    have : v.toNat < n.toNat := by omega
    split
    · rfl
    · simp [rd, List.getD_eq_getElem?_getD, this]
  have h0 : rd [s] 0 = s := rfl
  have e0 := (hr.src s s0 s1).2 rfl
  have one : ∀ b : Int, 0 ≤ b → b < ([s].length : Nat) → rd [s] b = s := fun b b0 b1 => by
    obtain rfl : b = 0 := by simp at b1; omega
    rfl
  refine ⟨by simp; omega, by simp, fun u u0 u1 => ?_, fun u => ?_, fun a b a0 ab b1 => ?_, fun _ b b0 b1 => ?_, fun a a0 a1 => by omega, fun _ u u0 u1 z y => ?_, ?_, by simp⟩
  · rw [hs u u0 u1]
    by_cases e : u = s
    · rw [if_pos e, e, e0]
      exact .inr ⟨rfl, by omega⟩
    · exact .inl (if_neg e)
  · rw [List.mem_singleton]
    constructor
    · rintro rfl
      exact ⟨⟨s0, s1⟩, by rw [hs u s0 s1, if_pos rfl]; omega⟩
    · rintro ⟨z, y⟩
      rw [hs u z.1 z.2] at y
      by_cases e : u = s
      · exact e
      · rw [if_neg e] at y
        omega
  · rw [one a a0 (by omega), one b (by omega) b1]
    omega
  · rw [one b b0 b1, h0]
    omega
  · rw [h0, e0] at y
    rw [(hr.src u u0 u1).1 (by omega), hs s s0 s1, if_pos rfl]
    omega
  · have hul : s.toNat < (List.replicate n.toNat (-1 : Int)).length := by simp; omega
    have c := List.count_set (a := (0 : Int)) (b := (-1 : Int)) hul
    rw [c]
    simp
    omega
end
end Go.Proofs.YtkmpkcofddpdgaaDoor.Q
namespace Go.Proofs.YtkmpkcofddpdgaaDoor.Q
open Go Go.RowKit Go.Proofs.YtkmpkcofddpdgaaDoorW.PrintWords Go.Proofs.YtkmpkcofddpdgaaDoorW.PrintMore
open Classical in
noncomputable def dist (n : Int) (l : List Int) (s : Int) : List Int := if h : 0 ≤ n then (distL_exists n l s h).choose else []
theorem distL (n : Int) (l : List Int) (s : Int) (n0 : 0 ≤ n) : DistL n l s (dist n l s) := by
  unfold dist
  rw [dif_pos n0]
  exact (distL_exists n l s n0).choose_spec
theorem dist_of (n : Int) (l : List Int) (s : Int) (n0 : 0 ≤ n) : Dist n l s (dist n l s) := (distL n l s n0).dist
theorem dist_sym {n : Int} {l : List Int} (h : isG n l) {v u : Int} (v0 : 0 ≤ v) (v1 : v < n) (u0 : 0 ≤ u) (u1 : u < n) : rd (dist n l v) u = rd (dist n l u) v := by
  have n0 : 0 ≤ n := by omega
  have hg : ∀ v w, 0 ≤ v → v < n → 0 ≤ w → w < n → tb (rd l v) w = tb (rd l w) v := fun v w a b c d => h.2.2 v w a b c d
  have a := distL n l v n0
  have b := distL n l u n0
  rcases a.2 u u0 u1 with ⟨e, z⟩ | ⟨d, e, z⟩
  · rcases b.2 v v0 v1 with ⟨f, y⟩ | ⟨d, f, y⟩
    · rw [e, f]
    · exact absurd (Wk.back hg d v y.1) (z d)
  · rw [e, (b.ds v0 v1 d).2 (z.back hg)]
end Go.Proofs.YtkmpkcofddpdgaaDoor.Q
namespace Go.Proofs.YtkmpkcofddpdgaaDoor.Q
open Go Go.RowKit Go.Proofs.YtkmpkcofddpdgaaDoor.P Go.Proofs.YtkmpkcofddpdgaaDoorW.PrintWords Go.Proofs.YtkmpkcofddpdgaaDoorW.PrintMore
section
variable {n : Int} {l : List Int} (h : rows n l) (a b : Int) {l' : List Int} (hcut : ∀ w u, 0 ≤ w → w < n → 0 ≤ u → u < n → (tb (rd l' w) u = true ↔ tb (rd l w) u = true ∧ ¬ (w = a ∧ u = b) ∧ ¬ (w = b ∧ u = a))) {s : Int} (s0 : 0 ≤ s) (s1 : s < n) {r : List Int} (hr : Dist n l' s r)
include h hcut hr
theorem s_from_l1 (e : Nat) : ∀ (i : Int) (ds q : List Int), n - i = e → QI n l' s r ds q i → Ev (fun k => spec_l02From.l1 k a b ds q i n l) r := by
  have n1 := h.1
  have n2 := h.2.1
  have hl := h.2.2.1
  have stop : ∀ (i : Int) (ds q : List Int), QI n l' s r ds q i → ¬ i < q.length → Ev (fun k => spec_l02From.l1 k a b ds q i n l) r := by
    intro i ds q hq hi
    obtain rfl := hq.done hr hi
    refine ev_k ?_
    simp only [spec_l02From.l1]
    exact ev_neg hi (Ev.now _)
  induction e with
  | zero =>
    intro i ds q he hq
    exact stop i ds q hq (by have := hq.cnt; omega)
  | succ e ih =>
    intro i ds q he hq
    by_cases hi : i < q.length
    · have i0 := hq.at0.1
      have inner : ∀ (c : Nat) (u : Int) (ds q : List Int) (w : Int), QI n l' s r ds q i → i < q.length → rd q i = w → 0 ≤ u → u ≤ n → n - u = c → (∀ v, 0 ≤ v → v < u → tb (rd l' w) v = true → 0 ≤ rd ds v) → Ev (fun k => spec_l02From.l2 k a b ds q i w u n l) r := by
        intro c
        induction c with
        | zero =>
          intro u ds q w hq hi hw u0 u1 hc hp
          refine ev_k ?_
          simp only [spec_l02From.l2]
          rw [w64 (a := i + 1) (by have := hq.cnt; omega) (by have := hq.cnt; omega)]
          exact ev_neg (by omega) (ih (i + 1) ds q (by omega) (hq.step hr hi fun v v0 v1 tv => hp v v0 (by omega) (by rw [← hw]; exact tv)))
        | succ c ihc =>
          intro u ds q w hq hi hw u0 u1 hc hp
          obtain ⟨hwr, hwd, hw0⟩ := hq.head hi
          rw [hw] at hwr hwd hw0
          have hlen := hq.len
          have hcnt := hq.cnt
          have hc' := hcut w u hwr.1 hwr.2 u0 (by omega)
          have bq : bits .and .i64 (shr .i64 (rd l w) u) 1 = 0 ↔ ¬ tb (rd l w) u = true := by
            rw [bit_at u0 (by omega)]
            cases tb (rd l w) u <;> simp
          have skip : (tb (rd l' w) u = true → 0 ≤ rd ds u) → Ev (fun k => spec_l02From.l2 k a b ds q i w (u + 1) n l) r := fun z => ihc (u + 1) ds q w hq hi hw (by omega) (by omega) (by omega) fun v v0 v1 tv => by
            by_cases y : v = u
            · rw [y] at tv ⊢
              exact z tv
            · exact hp v v0 (by omega) tv
          refine ev_k ?_
          simp only [spec_l02From.l2]
          rw [wu64 u0 (by omega), w64 (a := u + 1) (by omega) (by omega)]
          refine ev_pos (by omega) (ev_pos hwr.1 (ev_pos (by omega) (ev_pos u0 ?_)))
          by_cases ht : tb (rd l w) u = true
          · refine ev_neg (fun z => bq.1 z ht) (ev_pos u0 (ev_pos (by omega) ?_))
            by_cases hu : rd ds u ≥ 0
            · exact ev_pos hu (skip fun _ => hu)
            · refine ev_neg hu ?_
              by_cases hx : (w = a ∧ u = b) ∨ (w = b ∧ u = a)
              · have sk := skip fun z => by
                  have := hc'.1 z
                  rcases hx with y | y
                  · exact absurd y this.2.1
                  · exact absurd y this.2.2
                refine ev_ite (fun q1 => ev_ite (fun q2 => sk) fun q2 => ev_ite (fun q3 => ev_ite (fun q4 => sk) fun q4 => ?_) fun q3 => ?_) fun q1 => ev_ite (fun q3 => ev_ite (fun q4 => sk) fun q4 => ?_) fun q3 => ?_
                all_goals exact absurd hx (by omega)
              · have ht' := hc'.2 ⟨ht, fun z => hx (.inl z), fun z => hx (.inr z)⟩
                have add : Ev (fun k => if w < (ds.length : Int) then (if q.length < 17592186044416 then (spec_l02From.l2 k a b (ds.set (u : Int).toNat (wrap64 ((rd ds w) + 1))) (q ++ [u]) i w (u + 1) n l) else (none)) else (none)) r := by
                  refine ev_pos (by omega) (ev_pos (by omega) ?_)
                  obtain ⟨e2, hq2⟩ := hq.add hr hi u0 (by omega) (by rw [hw]; exact ht') (by omega)
                  rw [hw] at e2
                  have hsm := hr.small w hwr.1 hwr.2
                  rw [hwd, w64 (a := rd r w + 1) (by omega) (by omega), ← e2]
                  refine ihc (u + 1) _ _ w hq2 (by simp; omega) (by rw [rd_app_left i0 hi]; exact hw) (by omega) (by omega) (by omega) fun v v0 v1 tv => ?_
                  rw [rd_set _ u0 (by omega) v0]
                  by_cases z : v = u
                  · rw [if_pos z]
                    omega
                  · rw [if_neg z]
                    exact hp v v0 (by omega) tv
                refine ev_ite (fun q1 => ev_ite (fun q2 => absurd (.inl ⟨q1, q2⟩) hx) fun q2 => ev_ite (fun q3 => ev_ite (fun q4 => absurd (.inr ⟨q3, q4⟩) hx) fun q4 => add) fun q3 => add) fun q1 => ev_ite (fun q3 => ev_ite (fun q4 => absurd (.inr ⟨q3, q4⟩) hx) fun q4 => add) fun q3 => add
          · exact ev_pos (bq.2 ht) (skip fun z => absurd (hc'.1 z).1 ht)
      refine ev_k ?_
      simp only [spec_l02From.l1]
      exact ev_pos hi (ev_pos i0 (inner n.toNat 0 ds q _ hq hi rfl (by omega) (by omega) (by omega) fun v v0 v1 => by omega))
    · exact stop i ds q hq hi
include s0 s1
theorem s_from_cut : Ev (fun k => spec_l02From.f k n l s a b) r := by
  have n1 := h.1
  have n2 := h.2.1
  have fill : ∀ (d : Nat) (i : Nat), (i : Int) ≤ n → n - i = d → Ev (fun k => spec_l02From.l0 k s a b (List.replicate i (-1)) i n l) r := by
    intro d
    induction d with
    | zero =>
      intro i h1 hd
      have := s_from_l1 h a b hcut hr n.toNat 0 _ _ (by omega) (QI.start hr s0 s1)
      refine ev_k ?_
      simp only [spec_l02From.l0]
      refine ev_neg (by omega) (ev_pos s0 (ev_pos (by simp; omega) ?_))
      rw [show i = n.toNat by omega]
      exact this
    | succ d ih =>
      intro i h1 hd
      have := ih (i + 1) (by omega) (by omega)
      refine ev_k ?_
      simp only [spec_l02From.l0]
      refine ev_pos (by omega) (ev_pos (by simp; omega) ?_)
      rw [w64 (a := (i : Int) + 1) (by omega) (by omega), ← List.replicate_succ']
      exact this
  unfold spec_l02From.f
  exact fill n.toNat 0 (by omega) (by omega)
end
theorem s_from {n : Int} {l : List Int} (h : rows n l) {s : Int} (s0 : 0 ≤ s) (s1 : s < n) {r : List Int} (hr : Dist n l s r) : Ev (fun k => spec_l02From.f k n l s (-1) (-1)) r :=
  s_from_cut h (-1) (-1) (fun w u w0 w1 u0 u1 => ⟨fun z => ⟨z, by omega, by omega⟩, fun z => z.1⟩) s0 s1 hr
noncomputable def dists (n : Int) (l : List Int) (m : Nat) : List (List Int) := (List.range m).map fun (j : Nat) => dist n l (j : Int)
theorem dists_length (n : Int) (l : List Int) (m : Nat) : (dists n l m).length = m := by simp [dists]
theorem dists_succ (n : Int) (l : List Int) (m : Nat) : dists n l (m + 1) = dists n l m ++ [dist n l m] := by simp [dists, List.range_succ]
theorem s_rows {n : Int} {l : List Int} (h : rows n l) : Ev (fun k => spec_l06Rows.f k n l) (dists n l n.toNat) := by
  have n1 := h.1
  have n2 := h.2.1
  have loop : ∀ (d : Nat) (i : Nat), (i : Int) ≤ n → n - i = d → Ev (fun k => spec_l06Rows.l0 k (dists n l i) i n l) (dists n l n.toNat) := by
    intro d
    induction d with
    | zero =>
      intro i h1 hd
      refine ev_k ?_
      simp only [spec_l06Rows.l0]
      refine ev_neg (by omega) (ev_some ?_)
      rw [show i = n.toNat by omega]
    | succ d ih =>
      intro i h1 hd
      refine ev_k ?_
      simp only [spec_l06Rows.l0]
      refine ev_pos (by omega) (Ev.bind (s_from h (by omega) (by omega) (dist_of n l i (by omega))) (ev_pos (by rw [dists_length]; omega) ?_))
      rw [w64 (by omega) (by omega), ← dists_succ]
      exact ih (i + 1) (by omega) (by omega)
  unfold spec_l06Rows.f
  exact loop n.toNat 0 (by omega) (by omega)
theorem rd_dists {n : Int} (l : List Int) {v : Int} (v0 : 0 ≤ v) (v1 : v < n) : rd_L1 (dists n l n.toNat) v = dist n l v := by
  have : v.toNat < n.toNat := by omega
  simp [rd_L1, dists, List.getD_eq_getElem?_getD, this]
  congr 1
  omega
end Go.Proofs.YtkmpkcofddpdgaaDoor.Q
namespace Go.Proofs.YtkmpkcofddpdgaaDoor.Q
open Go Go.RowKit Go.Proofs.YtkmpkcofddpdgaaDoor.P Go.Proofs.YtkmpkcofddpdgaaDoorW.PrintWords Go.Proofs.YtkmpkcofddpdgaaDoorW.PrintMore
end Go.Proofs.YtkmpkcofddpdgaaDoor.Q
namespace Go.Proofs.YtkmpkcofddpdgaaDoor.Q
open Go Go.RowKit Go.Proofs.YtkmpkcofddpdgaaDoor.P Go.Proofs.YtkmpkcofddpdgaaDoorW.PrintWords Go.Proofs.YtkmpkcofddpdgaaDoorW.PrintMore
noncomputable def ecc (n : Int) (l : List Int) (v : Int) : Int := top (dist n l v)
noncomputable def eccs (n : Int) (l : List Int) (m : Nat) : List Int := (List.range m).map fun (j : Nat) => ecc n l (j : Int)
theorem eccs_length (n : Int) (l : List Int) (m : Nat) : (eccs n l m).length = m := by simp [eccs]
theorem eccs_succ (n : Int) (l : List Int) (m : Nat) : eccs n l (m + 1) = eccs n l m ++ [ecc n l m] := by simp [eccs, List.range_succ]
theorem eccs_at (n : Int) (l : List Int) (m : Nat) {v : Int} (v0 : 0 ≤ v) (v1 : v < m) : rd (eccs n l m) v = ecc n l v := by
  have : v.toNat < m := by omega
  simp [rd, eccs, List.getD_eq_getElem?_getD, this]
  congr 1
  omega
theorem ecc_max {n : Int} (l : List Int) (n1 : 1 ≤ n) (n2 : n ≤ 62) (v : Int) : IsMax (dist n l v) (ecc n l v) := by
  have hlen := (dist_of n l v (by omega)).len
  obtain ⟨m, _, hm⟩ := r_max (dist n l v) (by omega) (by omega)
  unfold ecc
  rw [top_eq hm]
  exact hm
noncomputable def diam (n : Int) (l : List Int) : Int := top (eccs n l n.toNat)
theorem diam_max {n : Int} (l : List Int) (n1 : 1 ≤ n) (n2 : n ≤ 62) : IsMax (eccs n l n.toNat) (diam n l) := by
  have hlen := eccs_length n l n.toNat
  obtain ⟨m, _, hm⟩ := r_max (eccs n l n.toNat) (by omega) (by omega)
  unfold diam
  rw [top_eq hm]
  exact hm
theorem diam_le {n : Int} (l : List Int) (n1 : 1 ≤ n) (n2 : n ≤ 62) {v u : Int} (v0 : 0 ≤ v) (v1 : v < n) (u0 : 0 ≤ u) (u1 : u < n) : rd (dist n l v) u ≤ diam n l := by
  have a := (ecc_max l n1 n2 v).1 u u0 (by have := (dist_of n l v (by omega)).len; omega)
  have b := (diam_max l n1 n2).1 v v0 (by rw [eccs_length]; omega)
  rw [eccs_at n l _ v0 (by omega)] at b
  omega
theorem diam_at {n : Int} (l : List Int) (n1 : 1 ≤ n) (n2 : n ≤ 62) : ∃ v u, ((0 ≤ v ∧ v < n) ∧ (0 ≤ u ∧ u < n)) ∧ rd (dist n l v) u = diam n l := by
  obtain ⟨_, v, v0, v1, e⟩ := diam_max l n1 n2
  rw [eccs_length] at v1
  obtain ⟨_, u, u0, u1, f⟩ := ecc_max l n1 n2 v
  have := (dist_of n l v (by omega)).len
  rw [eccs_at n l _ v0 (by omega)] at e
  exact ⟨v, u, ⟨⟨v0, by omega⟩, ⟨u0, by omega⟩⟩, by omega⟩
section
variable {n : Int} {l : List Int} (h : rows n l)
include h
theorem i_reaches : Ev (fun k => impl_Graph_reaches.f k n l) (eccs n l n.toNat) := by
  have n1 := h.1
  have n2 := h.2.1
  have loop : ∀ (d : Nat) (i : Nat), (i : Int) ≤ n → n - i = d → Ev (fun k => impl_Graph_reaches.l0 k (eccs n l i) n i n l) (eccs n l n.toNat) := by
    intro d
    induction d with
    | zero =>
      intro i h1 hd
      refine ev_k ?_
      simp only [impl_Graph_reaches.l0]
      refine ev_neg (by omega) (ev_some ?_)
      rw [show i = n.toNat by omega]
    | succ d ih =>
      intro i h1 hd
      have hdist := dist_of n l i (by omega)
      have hlen := hdist.len
      obtain ⟨m, hm, hmax⟩ := r_max (dist n l i) (by omega) (by omega)
      have em : m = ecc n l i := (ecc_max l n1 n2 i).uniq hmax |>.symm
      rw [em] at hm
      have := ih (i + 1) (by omega) (by omega)
      rw [eccs_succ] at this
      refine ev_k ?_
      simp only [impl_Graph_reaches.l0]
      refine ev_pos (by omega) (Ev.bind (i_distances h (by omega) (by omega) hdist) (Ev.bind hm (ev_pos (by rw [eccs_length]; omega) ?_)))
      rw [w64 (a := (i : Int) + 1) (by omega) (by omega)]
      exact this
  unfold impl_Graph_reaches.f
  exact loop n.toNat 0 (by omega) (by omega)
theorem s_levels {v : Int} (v0 : 0 ≤ v) (v1 : v < n) : ∃ q : List Int, Ev (fun k => spec_l02Levels.f k n l v) q ∧ (q.length : Int) = ecc n l v + 1 := by
  have n1 := h.1
  have n2 := h.2.1
  have hd := dist_of n l v (by omega)
  have hlen := hd.len
  have hmax := ecc_max l n1 n2 v
  generalize hr : dist n l v = r at *
  have hsm : ∀ u, 0 ≤ u → u < n → rd r u < n := hd.small
  have l0 : ∀ (d : Nat) (w : Int) (out : List Int), 0 ≤ w → w ≤ n → n - w = d → (∀ u, 0 ≤ u → u < w → rd r u < out.length) → (out.length = 0 ∨ ∃ u, (0 ≤ u ∧ u < n) ∧ (out.length : Int) ≤ rd r u + 1) → ∃ q : List Int, Ev (fun k => spec_l02Levels.l0 k r out w) q ∧ (q.length : Int) = ecc n l v + 1 := by
    intro d
    induction d with
    | zero =>
      intro w out w0 w1 hw ha hb
      refine ⟨out, ev_k ?_, ?_⟩
      · simp only [spec_l02Levels.l0]
        exact ev_neg (by omega) (Ev.now _)
      · have hs := ha v v0 (by omega)
        have h0 := (hd.src v v0 v1).2 rfl
        obtain ⟨m1, u, u0, u1, e⟩ := hmax
        have := ha u u0 (by omega)
        rcases hb with hb | ⟨u', hu, hb⟩
        · omega
        · have := m1 u' hu.1 (by omega)
          omega
    | succ d ih =>
      intro w out w0 w1 hw ha hb
      have hsw := hsm w w0 (by omega)
      have l1 : ∀ (e : Nat) (out : List Int), rd r w + 1 - out.length ≤ e → (∀ u, 0 ≤ u → u < w → rd r u < out.length) → (out.length = 0 ∨ ∃ u, (0 ≤ u ∧ u < n) ∧ (out.length : Int) ≤ rd r u + 1) → ∃ q : List Int, Ev (fun k => spec_l02Levels.l1 k r out w) q ∧ (q.length : Int) = ecc n l v + 1 := by
        intro e
        induction e with
        | zero =>
          intro out he ha hb
          by_cases z : rd r w ≥ 0
          · obtain ⟨q, hq, hl⟩ := ih (w + 1) (out.set (rd r w).toNat (wrap64 (rd out (rd r w) + 1))) (by omega) (by omega) (by omega) (fun u u0 u1 => by
              rw [List.length_set]
              by_cases e : u = w
              · rw [e]; omega
              · exact ha u u0 (by omega)) (by rw [List.length_set]; exact hb)
            refine ⟨q, ev_k ?_, hl⟩
            simp only [spec_l02Levels.l1]
            rw [w64 (a := w + 1) (by omega) (by omega)]
            exact ev_pos w0 (ev_pos (by omega) (ev_neg (by omega) (ev_pos z (ev_pos z (ev_pos (by omega) hq)))))
          · obtain ⟨q, hq, hl⟩ := ih (w + 1) out (by omega) (by omega) (by omega) (fun u u0 u1 => by
              by_cases e : u = w
              · rw [e]; omega
              · exact ha u u0 (by omega)) hb
            refine ⟨q, ev_k ?_, hl⟩
            simp only [spec_l02Levels.l1]
            rw [w64 (a := w + 1) (by omega) (by omega)]
            exact ev_pos w0 (ev_pos (by omega) (ev_neg (by omega) (ev_neg z hq)))
        | succ e ihe =>
          intro out he ha hb
          by_cases y : (out.length : Int) ≤ rd r w
          · obtain ⟨q, hq, hl⟩ := ihe (out ++ [0]) (by simp; omega) (fun u u0 u1 => by have := ha u u0 u1; simp; omega) (.inr ⟨w, ⟨w0, by omega⟩, by simp; omega⟩)
            refine ⟨q, ev_k ?_, hl⟩
            simp only [spec_l02Levels.l1]
            exact ev_pos w0 (ev_pos (by omega) (ev_pos y (ev_pos (by omega) hq)))
          · by_cases z : rd r w ≥ 0
            · obtain ⟨q, hq, hl⟩ := ih (w + 1) (out.set (rd r w).toNat (wrap64 (rd out (rd r w) + 1))) (by omega) (by omega) (by omega) (fun u u0 u1 => by
                rw [List.length_set]
                by_cases e : u = w
                · rw [e]; omega
                · exact ha u u0 (by omega)) (by rw [List.length_set]; exact hb)
              refine ⟨q, ev_k ?_, hl⟩
              simp only [spec_l02Levels.l1]
              rw [w64 (a := w + 1) (by omega) (by omega)]
              exact ev_pos w0 (ev_pos (by omega) (ev_neg y (ev_pos z (ev_pos z (ev_pos (by omega) hq)))))
            · obtain ⟨q, hq, hl⟩ := ih (w + 1) out (by omega) (by omega) (by omega) (fun u u0 u1 => by
                by_cases e : u = w
                · rw [e]; omega
                · exact ha u u0 (by omega)) hb
              refine ⟨q, ev_k ?_, hl⟩
              simp only [spec_l02Levels.l1]
              rw [w64 (a := w + 1) (by omega) (by omega)]
              exact ev_pos w0 (ev_pos (by omega) (ev_neg y (ev_neg z hq)))
      obtain ⟨q, hq, hl⟩ := l1 (rd r w + 1 - out.length).toNat out (by omega) ha hb
      refine ⟨q, ev_k ?_, hl⟩
      simp only [spec_l02Levels.l0]
      exact ev_pos (by omega) hq
  obtain ⟨q, hq, hl⟩ := l0 n.toNat 0 [] (by omega) (by omega) (by omega) (fun u u0 u1 => by omega) (.inl rfl)
  refine ⟨q, ?_, hl⟩
  unfold spec_l02Levels.f
  exact Ev.bind (s_from h v0 v1 hd) hq
theorem s_reaches : Ev (fun k => spec_l02Reaches.f k n l) (eccs n l n.toNat) := by
  have n1 := h.1
  have n2 := h.2.1
  have loop : ∀ (d : Nat) (i : Nat), (i : Int) ≤ n → n - i = d → Ev (fun k => spec_l02Reaches.l0 k (eccs n l i) i n l) (eccs n l n.toNat) := by
    intro d
    induction d with
    | zero =>
      intro i h1 hd
      refine ev_k ?_
      simp only [spec_l02Reaches.l0]
      refine ev_neg (by omega) (ev_some ?_)
      rw [show i = n.toNat by omega]
    | succ d ih =>
      intro i h1 hd
      obtain ⟨q, hq, hl⟩ := s_levels h (v := i) (by omega) (by omega)
      have hs := (dist_of n l i (by omega)).small
      obtain ⟨_, u, u0, u1, e⟩ := ecc_max l n1 n2 i
      have hlen := (dist_of n l i (by omega)).len
      have lo := (dist_of n l i (by omega)).low u u0 (by omega)
      have hi := hs u u0 (by omega)
      have := ih (i + 1) (by omega) (by omega)
      rw [eccs_succ] at this
      refine ev_k ?_
      simp only [spec_l02Reaches.l0]
      refine ev_pos (by omega) (Ev.bind hq (ev_pos (by rw [eccs_length]; omega) ?_))
      rw [hl, w64 (a := (i : Int) + 1) (by omega) (by omega), w64 (a := ecc n l i + 1 - 1) (by omega) (by omega), Int.add_sub_cancel]
      exact this
  unfold spec_l02Reaches.f
  exact loop n.toNat 0 (by omega) (by omega)
theorem s_diameter : ∃ b, Ev (fun k => spec_l02Diameter.f k n l) (diam n l, b) := by
  have n1 := h.1
  have n2 := h.2.1
  have hlen := eccs_length n l n.toNat
  have hmax := diam_max l n1 n2
  have hs := s_reaches h
  generalize eccs n l n.toNat = es at *
  have loop : ∀ (d : Nat) (i a b : Int), 0 ≤ i → i ≤ es.length → es.length - i = d → (∀ j, 0 ≤ j → j < i → rd es j ≤ a) → (∃ j : Int, (0 ≤ j ∧ j < es.length) ∧ a = rd es j) → ∃ c, Ev (fun k => spec_l02Diameter.l0 k es a b i) (diam n l, c) := by
    intro d
    induction d with
    | zero =>
      intro i a b i0 i1 hd h1 h2
      obtain ⟨j, hj, e⟩ := h2
      have : a = diam n l := IsMax.uniq ⟨fun j j0 j1 => h1 j j0 (by omega), j, hj.1, hj.2, e⟩ hmax
      rw [← this]
      refine ⟨b, ev_k ?_⟩
      simp only [spec_l02Diameter.l0]
      exact ev_neg (by omega) (Ev.now _)
    | succ d ih =>
      intro i a b i0 i1 hd h1 h2
      have e : a ≤ mx a (rd es i) ∧ rd es i ≤ mx a (rd es i) ∧ (mx a (rd es i) = a ∨ mx a (rd es i) = rd es i) := by
        unfold mx
        split <;> omega
      obtain ⟨c, hc⟩ := ih (i + 1) (mx a (rd es i)) (mn b (rd es i)) (by omega) (by omega) (by omega) (fun j j0 j1 => by
        by_cases z : j = i
        · rw [z]; omega
        · have := h1 j j0 (by omega)
          omega) (by
        rcases e.2.2 with z | z
        · rw [z]; exact h2
        · exact ⟨i, by omega, z⟩)
      refine ⟨c, ev_k ?_⟩
      simp only [spec_l02Diameter.l0]
      rw [w64 (a := i + 1) (by omega) (by omega)]
      exact ev_pos (by omega) (ev_pos i0 hc)
  obtain ⟨c, hc⟩ := loop (es.length - 1) 1 (rd es 0) (rd es 0) (by omega) (by omega) (by omega) (fun j j0 j1 => by rw [show j = 0 by omega]; exact Int.le_refl _) ⟨0, by omega, rfl⟩
  refine ⟨c, ?_⟩
  unfold spec_l02Diameter.f
  exact Ev.bind hs (ev_pos (by omega) hc)
end
end Go.Proofs.YtkmpkcofddpdgaaDoor.Q
namespace Go.Proofs.YtkmpkcofddpdgaaDoor.Q
open Go Go.RowKit Go.Proofs.YtkmpkcofddpdgaaDoor.P
theorem s_in (a b c : Int) : spec_l01In.f a b c = some (decide (b ≤ a ∧ a ≤ c)) := by
  unfold spec_l01In.f
  split
  · exact congrArg some (decide_eq_decide.2 (by omega))
  · exact congrArg some (decide_eq_false (by omega)).symm
end Go.Proofs.YtkmpkcofddpdgaaDoor.Q
namespace Go.Proofs.YtkmpkcofddpdgaaDoor.Q
open Go Go.RowKit
end Go.Proofs.YtkmpkcofddpdgaaDoor.Q
namespace Go.Proofs.YtkmpkcofddpdgaaDoor.Q
open Go Go.RowKit Go.Proofs.YtkmpkcofddpdgaaDoor.P Go.Proofs.YtkmpkcofddpdgaaDoorW.PrintWords Go.Proofs.YtkmpkcofddpdgaaDoorW.PrintMore
set_option linter.unusedVariables false
theorem s_has (n : Int) (l : List Int) (v w : Int) (v0 : 0 ≤ v) (v1 : v < l.length) (w0 : 0 ≤ w) (w1 : w ≤ 63) : spec_l01Has.f n l v w = some (tb (rd l v) w) := by
  unfold spec_l01Has.f
  rw [if_pos v0, if_pos v1, wu64 w0 (by omega), if_pos w0, bit_is w0 w1]
section
variable {n : Int} {l : List Int} (n1 : 1 ≤ n) (n2 : n ≤ 62) (hn : (l.length : Int) = n)
include n1 n2 hn
theorem s_is_l1 (d : Nat) : ∀ v : Int, 0 ≤ v → v ≤ n → n - v = d → Says (fun k => spec_l01Is.l1 k v n l) (∀ a, v ≤ a → a < n → ∀ b, 0 ≤ b → b < a → tb (rd l a) b = tb (rd l b) a) := by
  induction d with
  | zero =>
    intro v v0 v1 hd
    refine says_k ?_
    simp only [spec_l01Is.l1]
    exact says_neg (by omega) (says_true fun a _ _ => by omega)
  | succ d ih =>
    intro v v0 v1 hd
    have hv : v < n := by omega
    have inner : ∀ (e : Nat) (w : Int), 0 ≤ w → w ≤ v → v - w = e → Says (fun k => spec_l01Is.l2 k v w n l) ((∀ b, w ≤ b → b < v → tb (rd l v) b = tb (rd l b) v) ∧ ∀ a, v + 1 ≤ a → a < n → ∀ b, 0 ≤ b → b < a → tb (rd l a) b = tb (rd l b) a) := by
      intro e
      induction e with
      | zero =>
        intro w w0 w1 he
        refine says_k ?_
        simp only [spec_l01Is.l2]
        refine says_neg (by omega) ?_
        rw [w64 (a := v + 1) (by omega) (by omega)]
        exact says_iff ⟨fun h => h.2, fun h => ⟨fun b _ _ => by omega, h⟩⟩ (ih (v + 1) (by omega) (by omega) (by omega))
      | succ e ihe =>
        intro w w0 w1 he
        refine says_k ?_
        simp only [spec_l01Is.l2]
        refine says_pos (by omega) ?_
        rw [s_has n l v w v0 (by omega) w0 (by omega), s_has n l w v w0 (by omega) v0 (by omega)]
        simp only [Option.bind_some]
        by_cases h : tb (rd l v) w = tb (rd l w) v
        · refine says_neg (by simp [h]) ?_
          rw [w64 (a := w + 1) (by omega) (by omega)]
          exact says_iff ⟨fun z => ⟨fun b b0 b1 => z.1 b (by omega) b1, z.2⟩, fun z => ⟨fun b b0 b1 => if hb : b = w then by rw [hb]; exact h else z.1 b (by omega) b1, z.2⟩⟩ (ihe (w + 1) (by omega) (by omega) (by omega))
        · exact says_pos (by simp [h]) (says_false fun z => h (z.1 w (by omega) (by omega)))
    refine says_k ?_
    simp only [spec_l01Is.l1]
    exact says_pos hv (says_iff ⟨fun z => ⟨fun b b0 b1 => z v (by omega) hv b b0 b1, fun a a0 a1 => z a (by omega) a1⟩, fun z a a0 a1 b b0 b1 => if ha : a = v then by subst ha; exact z.1 b b0 b1 else z.2 a (by omega) a1 b b0 b1⟩ (inner v.toNat 0 (by omega) (by omega) (by omega)))
theorem s_is_l0 (d : Nat) : ∀ v : Int, 0 ≤ v → v ≤ n → n - v = d → Says (fun k => spec_l01Is.l0 k v n l) ((∀ a, v ≤ a → a < n → (0 ≤ rd l a ∧ rd l a < 2 ^ n.toNat) ∧ tb (rd l a) a = false) ∧ ∀ a, 0 ≤ a → a < n → ∀ b, 0 ≤ b → b < a → tb (rd l a) b = tb (rd l b) a) := by
  have hp := two_pow_le (n := n) (by omega) n2
  induction d with
  | zero =>
    intro v v0 v1 hd
    refine says_k ?_
    simp only [spec_l01Is.l0]
    exact says_neg (by omega) (says_iff ⟨fun h => h.2, fun h => ⟨fun a _ _ => by omega, h⟩⟩ (s_is_l1 n1 n2 hn n.toNat 0 (by omega) (by omega) (by omega)))
  | succ d ih =>
    intro v v0 v1 hd
    refine says_k ?_
    simp only [spec_l01Is.l0]
    rw [wu64 (a := n) (by omega) (by omega), shl_one (by omega) n2, w64 (a := 2 ^ n.toNat - 1) (by omega) (by omega)]
    refine says_pos (by omega) (says_pos v0 (says_pos (by omega) (says_pos (by omega) ?_)))
    rw [s_in, s_has n l v v v0 (by omega) v0 (by omega)]
    simp only [Option.bind_some]
    by_cases h : 0 ≤ rd l v ∧ rd l v ≤ 2 ^ n.toNat - 1
    · refine says_pos (decide_eq_true h) ?_
      by_cases ht : tb (rd l v) v = true
      · exact says_pos ht (says_false fun z => by have := (z.1 v (by omega) (by omega)).2; rw [ht] at this; cases this)
      · refine says_neg ht ?_
        rw [w64 (a := v + 1) (by omega) (by omega)]
        refine says_iff ⟨fun z => ⟨fun a a0 a1 => z.1 a (by omega) a1, z.2⟩, fun z => ⟨fun a a0 a1 => if ha : a = v then ?_ else z.1 a (by omega) a1, z.2⟩⟩ (ih (v + 1) (by omega) (by omega) (by omega))
        subst ha
        exact ⟨by omega, by simpa using ht⟩
    · exact says_neg (by simpa using h) (says_false fun z => h (by have := (z.1 v (by omega) (by omega)).1; omega))
theorem i_is_l1 (v : Int) (v0 : 0 ≤ v) (v1 : v < n) (x : Int) (y3 y4 : Int) (y5 : List Int) (P : Prop) (hc : Says (fun k => impl_IsGraph.l0 k n y5 y3 (wrap64 (y4 + 1)) n l) P) (d : Nat) : ∀ w : Int, 0 ≤ w → w ≤ n → n - w = d →
    Says (fun k => impl_IsGraph.l1 k n v x y5 y3 y4 n w n l) ((∀ b, w ≤ b → b < n → tb x b = tb (rd l b) v) ∧ P) := by
  induction d with
  | zero =>
    intro w w0 w1 hd
    refine says_k ?_
    simp only [impl_IsGraph.l1]
    exact says_neg (by omega) (says_iff ⟨fun h => h.2, fun h => ⟨fun b _ _ => by omega, h⟩⟩ hc)
  | succ d ih =>
    intro w w0 w1 hd
    refine says_k ?_
    simp only [impl_IsGraph.l1]
    refine says_pos (by omega) (says_pos w0 (says_pos (by omega) (says_pos v0 ?_)))
    by_cases h : tb x w = tb (rd l w) v
    · refine says_pos ((bit_eq w0 (by omega) v0 (by omega)).2 h) ?_
      rw [w64 (a := w + 1) (by omega) (by omega)]
      exact says_iff ⟨fun z => ⟨fun b b0 b1 => z.1 b (by omega) b1, z.2⟩, fun z => ⟨fun b b0 b1 => if hb : b = w then by rw [hb]; exact h else z.1 b (by omega) b1, z.2⟩⟩ (ih (w + 1) (by omega) (by omega) (by omega))
    · exact says_neg (fun z => h ((bit_eq w0 (by omega) v0 (by omega)).1 z)) (says_false fun z => h (z.1 w (by omega) (by omega)))
theorem i_is_l0 (d : Nat) : ∀ v : Int, 0 ≤ v → v ≤ n → n - v = d → Says (fun k => impl_IsGraph.l0 k n l n v n l) (∀ a, v ≤ a → a < n → ((0 ≤ rd l a ∧ rd l a < 2 ^ n.toNat) ∧ tb (rd l a) a = false) ∧ ∀ b, 0 ≤ b → b < n → tb (rd l a) b = tb (rd l b) a) := by
  induction d with
  | zero =>
    intro v v0 v1 hd
    refine says_k ?_
    simp only [impl_IsGraph.l0]
    exact says_neg (by omega) (says_true fun a _ _ => by omega)
  | succ d ih =>
    intro v v0 v1 hd
    have hv : v < n := by omega
    have ih := ih (v + 1) (by omega) (by omega) (by omega)
    have bad : ∀ (P : Prop), ¬ P → Says (fun k => impl_IsGraph.j2 k n v (rd l v) l n v true n l) P := fun P hP => by
      refine says_k ?_
      simp only [impl_IsGraph.j2]
      exact says_pos trivial (says_false hP)
    refine says_k ?_
    simp only [impl_IsGraph.l0]
    refine says_pos hv (says_pos v0 (says_pos (by omega) ?_))
    by_cases h0 : rd l v < 0
    · exact says_pos h0 (bad _ fun z => by have := (z v (by omega) hv).1.1; omega)
    · refine says_neg h0 (says_pos (by omega) ?_)
      rw [shl_one (by omega) n2]
      by_cases h1 : rd l v ≥ 2 ^ n.toNat
      · exact says_pos h1 (bad _ fun z => by have := (z v (by omega) hv).1.1; omega)
      · refine says_neg h1 ?_
        rw [bit_is v0 (by omega)]
        cases ht : tb (rd l v) v with
        | true => exact bad _ fun z => by have := (z v (by omega) hv).1.2; rw [ht] at this; cases this
        | false =>
          refine says_k ?_
          simp only [impl_IsGraph.j2]
          refine says_neg (by decide) ?_
          refine says_iff ?_ (i_is_l1 n1 n2 hn v v0 hv (rd l v) n v l _ (by rw [w64 (a := v + 1) (by omega) (by omega)]; exact ih) n.toNat 0 (by omega) (by omega) (by omega))
          exact ⟨fun z => ⟨(z v (by omega) hv).2, fun a a0 a1 => z a (by omega) a1⟩, fun z a a0 a1 => if ha : a = v then by subst ha; exact ⟨⟨by omega, ht⟩, z.1⟩ else z.2 a (by omega) a1⟩
end
theorem s_is (n : Int) (l : List Int) : Says (fun k => spec_l01Is.f k n l) (isG n l) := by
  have bad : ¬ isG n l → Says (fun k => spec_l01Is.j0 k true n l) (isG n l) := fun h => by
    refine says_k ?_
    simp only [spec_l01Is.j0]
    exact says_pos trivial (says_false h)
  unfold spec_l01Is.f
  rw [s_in]
  simp only [Option.bind_some]
  by_cases h1 : 1 ≤ n ∧ n ≤ 62
  · refine says_pos (decide_eq_true h1) ?_
    by_cases h2 : (l.length : Int) = n
    · refine says_k ?_
      simp only [spec_l01Is.j0]
      refine says_neg (by simp [h2]) ?_
      refine says_iff ?_ (s_is_l0 h1.1 h1.2 h2 n.toNat 0 (by omega) (by omega) (by omega))
      constructor
      · exact fun ⟨⟨_, _, _, r⟩, lo, sy⟩ => ⟨fun a a0 a1 => ⟨r a a0 a1, lo a a0 a1⟩, fun a a0 a1 b b0 b1 => sy a b a0 a1 b0 (by omega)⟩
      · intro ⟨z, sy⟩
        refine ⟨⟨h1.1, h1.2, h2, fun a a0 a1 => (z a a0 a1).1⟩, fun a a0 a1 => (z a a0 a1).2, fun a b a0 a1 b0 b1 => ?_⟩
        rcases Int.lt_trichotomy a b with h | h | h
        · exact (sy b b0 b1 a a0 h).symm
        · rw [h]
        · exact sy a a0 a1 b b0 h
    · rw [show ((l.length : Int) != n) = true by simpa using h2]
      exact bad fun z => h2 z.1.2.2.1
  · exact says_neg (by simpa using h1) (bad fun z => h1 ⟨z.1.1, z.1.2.1⟩)
theorem i_is (n : Int) (l : List Int) : Says (fun k => impl_IsGraph.f k n l) (isG n l) := by
  have bad : ¬ isG n l → Says (fun k => impl_IsGraph.j0 k n true n l) (isG n l) := fun h => by
    refine says_k ?_
    simp only [impl_IsGraph.j0]
    exact says_pos trivial (says_false h)
  unfold impl_IsGraph.f
  by_cases h1 : n < 1
  · exact says_pos h1 (bad fun z => by have := z.1.1; omega)
  · refine says_neg h1 ?_
    by_cases h2 : n > 62
    · exact says_pos h2 (bad fun z => by have := z.1.2.1; omega)
    · refine says_neg h2 ?_
      by_cases h3 : (l.length : Int) = n
      · refine says_k ?_
        simp only [impl_IsGraph.j0]
        refine says_neg (by simp [h3]) ?_
        have := i_is_l0 (n := n) (l := l) (by omega) (by omega) h3 n.toNat 0 (by omega) (by omega) (by omega)
        rw [h3]
        refine says_iff ?_ this
        constructor
        · exact fun ⟨⟨_, _, _, r⟩, lo, sy⟩ a a0 a1 => ⟨⟨r a a0 a1, lo a a0 a1⟩, fun b b0 b1 => sy a b a0 a1 b0 b1⟩
        · exact fun z => ⟨⟨by omega, by omega, h3, fun a a0 a1 => (z a a0 a1).1.1⟩, fun a a0 a1 => (z a a0 a1).1.2, fun a b a0 a1 b0 b1 => (z a a0 a1).2 b b0 b1⟩
      · rw [show ((l.length : Int) != n) = true by simpa using h3]
        exact bad fun z => h3 z.1.2.2.1
end Go.Proofs.YtkmpkcofddpdgaaDoor.Q
namespace Go.Proofs.YtkmpkcofddpdgaaDoor.Q
open Go Go.RowKit Go.Proofs.YtkmpkcofddpdgaaDoor.P Go.Proofs.YtkmpkcofddpdgaaDoorW.PrintWords Go.Proofs.YtkmpkcofddpdgaaDoorW.PrintMore
theorem full_rw {n : Int} (n0 : 0 ≤ n) (n2 : n ≤ 62) : Is n (2 ^ n.toNat - 1) (fun _ => True) := by
  have e : ((2 : Int) ^ n.toNat) = ((2 ^ n.toNat : Nat) : Int) := by simp
  have p := two_pow_le n0 n2
  have q : (2 : Int) ^ n.toNat - 1 = ((2 ^ n.toNat - 1 : Nat) : Int) := by
    have : 1 ≤ 2 ^ n.toNat := Nat.one_le_two_pow
    omega
  refine ⟨⟨by omega, by omega⟩, fun u u0 u1 => ⟨fun _ => trivial, fun _ => ?_⟩⟩
  rw [q, tb_toNat (by omega) u0, Int.toNat_natCast, Nat.testBit_two_pow_sub_one]
  exact decide_eq_true (by omega)
theorem i_all {n : Int} (n0 : 0 ≤ n) (n2 : n ≤ 62) : impl_all.f n = some (2 ^ n.toNat - 1) := by
  have p := two_pow_le n0 n2
  unfold impl_all.f
  rw [if_pos n0, shl_one n0 n2, w64 (by omega) (by omega)]
theorem Is.eq {n x y : Int} {P Q : Int → Prop} (n0 : 0 ≤ n) (hx : Is n x P) (hy : Is n y Q) (e : ∀ u, 0 ≤ u → u < n → (P u ↔ Q u)) : x = y :=
  tb_ext hx.1.1 hx.1.2 hy.1.1 hy.1.2 n0 fun i i0 i1 => Bool.eq_iff_iff.2 ((hx.2 i i0 i1).trans ((e i i0 i1).trans (hy.2 i i0 i1).symm))
section
variable {n : Int} {l : List Int} (h : rows n l) {s : Int} (s0 : 0 ≤ s) (s1 : s < n) {r : List Int} (hr : Dist n l s r)
include h hr
theorem i_part_l0 (e : Nat) : ∀ (d : Nat) (S L : Int), (62 : Int) - d = e → Is n S (fun u => 0 ≤ rd r u ∧ rd r u ≤ d) → Is n L (fun u => rd r u = d) → ∃ X, Is n X (fun u => 0 ≤ rd r u) ∧ Ev (fun k => impl_Graph_part.l0 k S L n l) X := by
  have n2 := h.2.1
  have hl := h.2.2.1
  have n0 : 0 ≤ n := by have := h.1; omega
  have stop : ∀ (d : Nat) (S : Int), Is n S (fun u => 0 ≤ rd r u ∧ rd r u ≤ d) → (∀ u, 0 ≤ u → u < n → rd r u ≠ d) → ∃ X, Is n X (fun u => 0 ≤ rd r u) ∧ Ev (fun k => impl_Graph_part.l0 k S 0 n l) X := by
    intro d S hS hno
    refine ⟨S, hS.imp fun u u0 u1 => ?_, ev_k ?_⟩
    · have a := hr.stops d (by omega) hno u u0 u1
      omega
    · simp only [impl_Graph_part.l0]
      exact ev_pos trivial (Ev.now _)
  induction e with
  | zero =>
    intro d S L he hS hL
    have hno : ∀ u, 0 ≤ u → u < n → rd r u ≠ d := fun u u0 u1 => by have := hr.small u u0 u1; omega
    have : L = 0 := (hL.1.eq_zero n0).2 fun w w0 w1 z => hno w w0 w1 ((hL.2 w w0 w1).1 z)
    subst this
    exact stop d S hS hno
  | succ e ih =>
    intro d S L he hS hL
    by_cases hz : L = 0
    · subst hz
      exact stop d S hS fun u u0 u1 z => (hL.1.eq_zero n0).1 rfl u u0 u1 ((hL.2 u u0 u1).2 z)
    · have hp := two_pow_le (n := n) n0 n2
      have inner : ∀ (ws pre : List Int) (X : Int), pre ++ ws = ones L → Is n X (fun u => ∃ w, w ∈ pre ∧ tb (rd l w) u = true) → ∃ Y, Is n Y (fun u => 0 ≤ rd r u) ∧ Ev (fun k => impl_Graph_part.l1 k S X (ones L) (ones L).length pre.length n l) Y := by
        intro ws
        have ol := ones_length L
        have om := fun v => ones_mem n0 n2 hL.1.1 hL.1.2 v
        induction ws with
        | nil =>
          intro pre X hpre hX
          rw [List.append_nil] at hpre
          subst hpre
          have hX2 : Is n X fun u => ∃ w, (0 ≤ w ∧ w < n) ∧ rd r w = d ∧ tb (rd l w) u = true := hX.imp fun u u0 u1 => by
            constructor
            · rintro ⟨w, hw, ht⟩
              obtain ⟨a, b, c⟩ := (om w).1 hw
              exact ⟨w, ⟨a, b⟩, (hL.2 w a b).1 c, ht⟩
            · rintro ⟨w, ⟨a, b⟩, c, ht⟩
              exact ⟨w, (om w).2 ⟨a, b, (hL.2 w a b).2 c⟩, ht⟩
          have o := or_rw n2 hS.1 hX.1
          have q := andNot_rw n2 hX.1 hS.1
          obtain ⟨Y, hY, hE⟩ := ih (d + 1) (bits .or .i64 S X) (bits .andNot .i64 X S) (by omega) ⟨o.1, fun u u0 u1 => by
            rw [o.2 u u0]
            exact ((level_next hr (by omega) hX2 u u0 u1 (hS.2 u u0 u1)).1).trans (by omega)⟩ ⟨q.1, fun u u0 u1 => by
            rw [q.2 u u0]
            exact ((level_next hr (by omega) hX2 u u0 u1 (hS.2 u u0 u1)).2).trans (by omega)⟩
          refine ⟨Y, hY, ev_k ?_⟩
          simp only [impl_Graph_part.l1]
          exact ev_neg (by omega) hE
        | cons w ws ihw =>
          intro pre X hpre hX
          have hlt : pre.length < (ones L).length := by rw [← hpre]; simp
          have hw : rd (ones L) pre.length = w := by
            rw [← hpre]
            simp [rd, List.getD_eq_getElem?_getD]
          obtain ⟨w0, w1, wt⟩ := (om w).1 (by rw [← hpre]; simp)
          have o := or_rw n2 hX.1 (h.2.2.2 w w0 w1)
          obtain ⟨Y, hY, hE⟩ := ihw (pre ++ [w]) (bits .or .i64 X (rd l w)) (by rw [← hpre]; simp) ⟨o.1, fun u u0 u1 => by
            rw [o.2 u u0, hX.2 u u0 u1]
            constructor
            · rintro (⟨x, hx, ht⟩ | ht)
              · exact ⟨x, by simp [hx], ht⟩
              · exact ⟨w, by simp, ht⟩
            · rintro ⟨x, hx, ht⟩
              rcases List.mem_append.1 hx with hx | hx
              · exact .inl ⟨x, hx, ht⟩
              · obtain rfl : x = w := by simpa using hx
                exact .inr ht⟩
          refine ⟨Y, hY, ev_k ?_⟩
          simp only [impl_Graph_part.l1, hw]
          refine ev_pos (by omega) (ev_pos (by omega) (ev_pos (by omega) (ev_pos w0 (ev_pos (by omega) ?_))))
          rw [w64 (a := (pre.length : Int) + 1) (by omega) (by omega)]
          simpa using hE
      obtain ⟨Y, hY, hE⟩ := inner (ones L) [] 0 (by simp) ⟨(zero_rw n).1, fun u u0 u1 => ⟨fun z => absurd z ((zero_rw n).2 u), fun ⟨w, hw, _⟩ => by cases hw⟩⟩
      refine ⟨Y, hY, ev_k ?_⟩
      simp only [impl_Graph_part.l0]
      exact ev_neg hz (Ev.bind (i_list hL.1.1 (by have := hL.1.2; omega)) (by simpa using hE))
include s0 s1
theorem i_part : ∃ X, Is n X (fun u => 0 ≤ rd r u) ∧ Ev (fun k => impl_Graph_part.f k n l s) X := by
  have n2 := h.2.1
  obtain ⟨o1, o2⟩ := one_rw n2 s0 s1
  obtain ⟨X, hX, hE⟩ := i_part_l0 h hr 62 0 (shl .i64 1 s) (shl .i64 1 s) (by omega) ⟨o1, fun u u0 u1 => by
    rw [o2 u u0, ← hr.src u u0 u1]
    omega⟩ ⟨o1, fun u u0 u1 => by
    rw [o2 u u0, ← hr.src u u0 u1]
    omega⟩
  refine ⟨X, hX, ?_⟩
  unfold impl_Graph_part.f
  exact ev_pos s0 hE
end
def joinedG (n : Int) (l : List Int) : Prop := ∀ u, 0 ≤ u → u < n → 0 ≤ rd (dist n l 0) u
theorem i_connected {n : Int} {l : List Int} (h : rows n l) : Says (fun k => impl_Graph_connected.f k n l) (joinedG n l) := by
  have n1 := h.1
  have n2 := h.2.1
  obtain ⟨X, hX, hE⟩ := i_part h (s := 0) (by omega) (by omega) (dist_of n l 0 (by omega))
  unfold impl_Graph_connected.f
  refine says_bind hE ?_
  rw [i_all (by omega) n2]
  simp only [Option.bind_some]
  refine says_iff ?_ (says_now _)
  rw [beq_iff_eq]
  have hf := full_rw (n := n) (by omega) n2
  constructor
  · intro z
    exact hX.eq (by omega) hf fun u u0 u1 => ⟨fun _ => trivial, fun _ => z u u0 u1⟩
  · intro z u u0 u1
    exact (hX.2 u u0 u1).1 (by rw [z]; exact (hf.2 u u0 u1).2 trivial)
theorem s_connected {n : Int} {l : List Int} (h : rows n l) : Says (fun k => spec_l02Connected.f k n l) (joinedG n l) := by
  have n1 := h.1
  have n2 := h.2.1
  have hd := dist_of n l 0 (by omega)
  have hlen := hd.len
  have loop : ∀ (d : Nat) (i : Int), 0 ≤ i → i ≤ n → n - i = d → Says (fun k => spec_l02Connected.l0 k (dist n l 0) i) (∀ u, i ≤ u → u < n → 0 ≤ rd (dist n l 0) u) := by
    intro d
    induction d with
    | zero =>
      intro i i0 i1 hd
      refine says_k ?_
      simp only [spec_l02Connected.l0]
      exact says_neg (by omega) (says_true fun u _ _ => by omega)
    | succ d ih =>
      intro i i0 i1 hd
      refine says_k ?_
      simp only [spec_l02Connected.l0]
      refine says_pos (by omega) (says_pos i0 ?_)
      by_cases z : rd (dist n l 0) i < 0
      · exact says_pos z (says_false fun y => by have := y i (by omega) (by omega); omega)
      · refine says_neg z ?_
        rw [w64 (a := i + 1) (by omega) (by omega)]
        exact says_iff ⟨fun y u u0 u1 => y u (by omega) u1, fun y u u0 u1 => if q : u = i then by rw [q]; omega else y u (by omega) u1⟩ (ih (i + 1) (by omega) (by omega) (by omega))
  unfold spec_l02Connected.f
  exact says_bind (s_from h (by omega) (by omega) hd) (loop n.toNat 0 (by omega) (by omega) (by omega))
theorem connCodes (n : Int) (l : List Int) : ∃ c, Ev (fun k => spec_l06Code.f k n l) c ∧ Ev (fun k => impl_connectedCode.f k n l) c ∧ (c = 0 ↔ isG n l ∧ joinedG n l) := by
  unfold spec_l06Code.f impl_connectedCode.f
  by_cases hg : isG n l
  · by_cases hc : joinedG n l
    · exact ⟨0, Ev.bind ((s_is n l).yes hg) (ev_pos rfl (Ev.bind ((s_connected hg.1).yes hc) (ev_pos rfl (Ev.now _)))), Ev.bind ((i_is n l).yes hg) (ev_pos rfl (Ev.bind ((i_connected hg.1).yes hc) (ev_pos rfl (Ev.now _)))), by simp [hg, hc]⟩
    · exact ⟨5, Ev.bind ((s_is n l).yes hg) (ev_pos rfl (Ev.bind ((s_connected hg.1).no hc) (ev_neg (by decide) (Ev.now _)))), Ev.bind ((i_is n l).yes hg) (ev_pos rfl (Ev.bind ((i_connected hg.1).no hc) (ev_neg (by decide) (Ev.now _)))), by simp [hc]⟩
  · exact ⟨1, Ev.bind ((s_is n l).no hg) (ev_neg (by decide) (Ev.now _)), Ev.bind ((i_is n l).no hg) (ev_neg (by decide) (Ev.now _)), by simp [hg]⟩
end Go.Proofs.YtkmpkcofddpdgaaDoor.Q
namespace Go.Proofs.YtkmpkcofddpdgaaDoor.Q
open Go Go.RowKit Go.Proofs.YtkmpkcofddpdgaaDoor.P Go.Proofs.YtkmpkcofddpdgaaDoorW.PrintWords Go.Proofs.YtkmpkcofddpdgaaDoorW.PrintMore
def Rc (n : Int) (l : List Int) (u v : Int) : Prop := 0 ≤ rd (dist n l u) v
theorem Rc_iff {n : Int} {l : List Int} (n0 : 0 ≤ n) {u v : Int} (v0 : 0 ≤ v) (v1 : v < n) : Rc n l u v ↔ ∃ k, Wk n l u k v := by
  unfold Rc
  rcases (distL n l u n0).2 v v0 v1 with ⟨e, h⟩ | ⟨d, e, h⟩
  · rw [e]
    exact ⟨fun z => by omega, fun ⟨k, hk⟩ => absurd hk (h k)⟩
  · rw [e]
    exact ⟨fun _ => ⟨d, h.1⟩, fun _ => by omega⟩
theorem Wk.join {n : Int} {l : List Int} {u v : Int} {k : Nat} (h : Wk n l u k v) : ∀ (j : Nat) (w : Int), Wk n l v j w → Wk n l u (k + j) w := by
  intro j
  induction j with
  | zero => intro w hw; cases hw; exact h
  | succ j ih =>
    rintro w ⟨hw, x, hx, hj, ht⟩
    exact ⟨hw, x, hx, ih x hj, ht⟩
theorem Rc.trans {n : Int} {l : List Int} {u v w : Int} (v0 : 0 ≤ v) (v1 : v < n) (w0 : 0 ≤ w) (w1 : w < n) (h : Rc n l u v) (g : Rc n l v w) : Rc n l u w := by
  obtain ⟨k, hk⟩ := (Rc_iff (by omega) v0 v1).1 h
  obtain ⟨j, hj⟩ := (Rc_iff (by omega) w0 w1).1 g
  exact (Rc_iff (by omega) w0 w1).2 ⟨_, hk.join j w hj⟩
theorem Rc.symm {n : Int} {l : List Int} (h : isG n l) {u v : Int} (u0 : 0 ≤ u) (u1 : u < n) (v0 : 0 ≤ v) (v1 : v < n) (g : Rc n l u v) : Rc n l v u := by
  unfold Rc at *
  rw [dist_sym h v0 v1 u0 u1]
  exact g
end Go.Proofs.YtkmpkcofddpdgaaDoor.Q
namespace Go.Proofs.YtkmpkcofddpdgaaDoor.Q
open Go Go.RowKit Go.Proofs.YtkmpkcofddpdgaaDoor.P Go.Proofs.YtkmpkcofddpdgaaDoorW.PrintWords Go.Proofs.YtkmpkcofddpdgaaDoorW.PrintMore
theorem a_own (l : List Int) (hl : l.length ≤ 1048576) : spec_l01Own.f l = some l := by
  unfold spec_l01Own.f
  simp only [Option.bind_some, List.nil_append]
  rw [if_pos (by simp; omega)]
def cn (r ws : List Int) (t : Int) : Int := ((ws.filter fun u => decide (rd r u = t)).length : Nat)
theorem cn_range (r ws : List Int) (t : Int) : 0 ≤ cn r ws t ∧ cn r ws t ≤ ws.length := by
  have := List.length_filter_le (fun u => decide (rd r u = t)) ws
  unfold cn
  omega
theorem cn_app (r a b : List Int) (t : Int) : cn r (a ++ b) t = cn r a t + cn r b t := by
  unfold cn
  rw [List.filter_append, List.length_append]
  omega
theorem cn_one (r : List Int) (u t : Int) : cn r [u] t = if rd r u = t then 1 else 0 := by
  unfold cn
  by_cases h : rd r u = t <;> simp [h]
theorem cn_nil (r : List Int) (t : Int) : cn r [] t = 0 := rfl
theorem cn_pos {r ws : List Int} {t : Int} (h : ∃ u ∈ ws, rd r u = t) : 0 < cn r ws t := by
  obtain ⟨u, hu, e⟩ := h
  have : u ∈ ws.filter fun u => decide (rd r u = t) := List.mem_filter.2 ⟨hu, by simpa using e⟩
  have := List.length_pos_of_mem this
  unfold cn
  omega
theorem cn_zero {r ws : List Int} {t : Int} (h : ∀ u ∈ ws, rd r u ≠ t) : cn r ws t = 0 := by
  unfold cn
  rw [List.filter_eq_nil_iff.2 fun u hu => by simpa using h u hu]
  rfl
noncomputable def upN (n : Int) (l : List Int) (v w : Int) : Int := cn (dist n l v) (ones (rd l w)) (rd (dist n l v) w + 1)
noncomputable def dnN (n : Int) (l : List Int) (v w : Int) : Int := cn (dist n l v) (ones (rd l w)) (rd (dist n l v) w - 1)
def DR (n : Int) (l : List Int) : Prop := ∀ v w a b, ((0 ≤ v ∧ v < n) ∧ (0 ≤ w ∧ w < n)) → ((0 ≤ a ∧ a < n) ∧ (0 ≤ b ∧ b < n)) → rd (dist n l v) w = rd (dist n l a) b → upN n l v w = upN n l a b ∧ dnN n l v w = dnN n l a b
def IsB (n : Int) (l b : List Int) : Prop := (b.length : Int) = diam n l ∧ ∀ v w, ((0 ≤ v ∧ v < n) ∧ (0 ≤ w ∧ w < n)) → rd (dist n l v) w < diam n l → rd b (rd (dist n l v) w) = upN n l v w
def IsC (n : Int) (l c : List Int) : Prop := (c.length : Int) = diam n l ∧ ∀ v w, ((0 ≤ v ∧ v < n) ∧ (0 ≤ w ∧ w < n)) → 0 < rd (dist n l v) w → rd c (rd (dist n l v) w - 1) = dnN n l v w
def Found (n : Int) (l : List Int) (p : List Int × List Int × Bool) : Prop := (p.2.2 = true ∧ DR n l ∧ IsB n l p.1 ∧ IsC n l p.2.1) ∨ (p = ([], [], false) ∧ ¬ DR n l)
section
variable {n : Int} {l : List Int} (h : isG n l) (hj : joinedG n l)
include h hj
theorem joined_all {v u : Int} (v0 : 0 ≤ v) (v1 : v < n) (u0 : 0 ≤ u) (u1 : u < n) : 0 ≤ rd (dist n l v) u := by
  have a : Rc n l 0 v := hj v v0 v1
  have b : Rc n l 0 u := hj u u0 u1
  have n1 := h.1.1
  exact Rc.trans (by omega) (by omega) u0 u1 (Rc.symm h (by omega) (by omega) v0 v1 a) b
omit hj in
theorem level_at {i : Int} (i0 : 0 ≤ i) (i1 : i ≤ diam n l) : ∃ v w, ((0 ≤ v ∧ v < n) ∧ (0 ≤ w ∧ w < n)) ∧ rd (dist n l v) w = i := by
  obtain ⟨v, u, ⟨hv, hu⟩, e⟩ := diam_at l h.1.1 h.1.2.1
  have hd := dist_of n l v (by omega)
  obtain ⟨w, hw, f⟩ := hd.level (diam n l).toNat u hu.1 hu.2 (by omega) i.toNat (by omega)
  exact ⟨v, w, ⟨hv, hw⟩, by omega⟩
omit hj in
theorem up_some {i : Int} (i0 : 0 ≤ i) (i1 : i < diam n l) : ∃ v w, ((0 ≤ v ∧ v < n) ∧ (0 ≤ w ∧ w < n)) ∧ rd (dist n l v) w = i ∧ 0 < upN n l v w := by
  have n2 := h.1.2.1
  obtain ⟨v, u, ⟨hv, hu⟩, e⟩ := level_at h (by omega : 0 ≤ i + 1) (by omega)
  have hd := dist_of n l v (by omega)
  obtain ⟨⟨w, hw, f, ht⟩, _⟩ := (hd.next i u i0 hu.1 hu.2).1 e
  have hr := h.1.2.2.2 w hw.1 hw.2
  exact ⟨v, w, ⟨hv, hw⟩, f, cn_pos ⟨u, (ones_mem (by omega) n2 hr.1 hr.2 u).2 ⟨hu.1, hu.2, ht⟩, by rw [f]; exact e⟩⟩
omit hj in
theorem dn_pos {v w : Int} (hv : 0 ≤ v ∧ v < n) (hw : 0 ≤ w ∧ w < n) (hp : 0 < rd (dist n l v) w) : 0 < dnN n l v w := by
  have n2 := h.1.2.1
  have hd := dist_of n l v (by omega)
  obtain ⟨⟨u, hu, f, ht⟩, _⟩ := (hd.next (rd (dist n l v) w - 1) w (by omega) hw.1 hw.2).1 (by omega)
  have hr := h.1.2.2.2 w hw.1 hw.2
  exact cn_pos ⟨u, (ones_mem (by omega) n2 hr.1 hr.2 u).2 ⟨hu.1, hu.2, by rw [h.2.2 w u hw.1 hw.2 hu.1 hu.2]; exact ht⟩, f⟩
omit hj in
theorem up_end {v w : Int} (hv : 0 ≤ v ∧ v < n) (hw : 0 ≤ w ∧ w < n) (hp : rd (dist n l v) w = diam n l) : upN n l v w = 0 := by
  have n2 := h.1.2.1
  have hr := h.1.2.2.2 w hw.1 hw.2
  refine cn_zero fun u hu e => ?_
  obtain ⟨u0, u1, _⟩ := (ones_mem (n := n) (by omega) n2 hr.1 hr.2 u).1 hu
  have := diam_le l h.1.1 n2 hv.1 hv.2 u0 u1
  omega
theorem dn_end {v w : Int} (hv : 0 ≤ v ∧ v < n) (hw : 0 ≤ w ∧ w < n) (hp : rd (dist n l v) w = 0) : dnN n l v w = 0 := by
  have n2 := h.1.2.1
  have hr := h.1.2.2.2 w hw.1 hw.2
  refine cn_zero fun u hu e => ?_
  obtain ⟨u0, u1, _⟩ := (ones_mem (n := n) (by omega) n2 hr.1 hr.2 u).1 hu
  have := joined_all h hj hv.1 hv.2 u0 u1
  omega
omit hj in
theorem Found.uniq {p q : List Int × List Int × Bool} (hp : Found n l p) (hq : Found n l q) : p = q := by
  obtain ⟨b, c, o⟩ := p
  obtain ⟨b', c', o'⟩ := q
  rcases hp with ⟨ho, hd, hb, hc⟩ | ⟨e, hd⟩ <;> rcases hq with ⟨ho', hd', hb', hc'⟩ | ⟨e', hd'⟩
  · simp only [] at ho ho' hb hc hb' hc'
    have e1 : b = b' := rd_ext (by have := hb.1; have := hb'.1; omega) fun i i0 i1 => by
      obtain ⟨v, w, hvw, e⟩ := level_at h i0 (by have := hb.1; omega)
      have x := hb.2 v w hvw (by have := hb.1; omega)
      have y := hb'.2 v w hvw (by have := hb.1; omega)
      rw [e] at x y
      rw [x, y]
    have e2 : c = c' := rd_ext (by have := hc.1; have := hc'.1; omega) fun i i0 i1 => by
      obtain ⟨v, w, hvw, e⟩ := level_at h (by omega : 0 ≤ i + 1) (by have := hc.1; omega)
      have x := hc.2 v w hvw (by omega)
      have y := hc'.2 v w hvw (by omega)
      rw [e, Int.add_sub_cancel] at x y
      rw [x, y]
    rw [e1, e2, ho, ho']
  · exact absurd hd hd'
  · exact absurd hd' hd
  · rw [e, e']
def Pr (n v w a b : Int) : Prop := ((0 ≤ a ∧ a < n) ∧ (0 ≤ b ∧ b < n)) ∧ (a < v ∨ (a = v ∧ b < w))
omit h hj in
theorem Pr_next {v w a b : Int} : Pr n v (w + 1) a b ↔ Pr n v w a b ∨ (((0 ≤ v ∧ v < n) ∧ (0 ≤ w ∧ w < n)) ∧ a = v ∧ b = w) := by
  unfold Pr
  omega
def InvS (n : Int) (l : List Int) (v w : Int) (up dn : List Int) : Prop := ((up.length : Int) = diam n l + 1 ∧ (dn.length : Int) = diam n l + 1) ∧ ∀ i, 0 ≤ i → i ≤ diam n l → (rd up i = -1 ∧ ∀ a b, Pr n v w a b → rd (dist n l a) b ≠ i) ∨ ((∃ a b, Pr n v w a b ∧ rd (dist n l a) b = i ∧ rd up i = upN n l a b ∧ rd dn i = dnN n l a b) ∧ ∀ a b, Pr n v w a b → rd (dist n l a) b = i → upN n l a b = rd up i ∧ dnN n l a b = rd dn i)
theorem s_arrays : ∃ p, Found n l p ∧ (p.1.length ≤ 62 ∧ p.2.1.length ≤ 62) ∧ Ev (fun k => spec_l06Arrays.f k n l) p := by
  have n1 := h.1.1
  have n2 := h.1.2.1
  have hl := h.1.2.2.1
  have hdl := dists_length n l n.toNat
  obtain ⟨bb, hdm⟩ := s_diameter h.1
  have hD0 : 0 ≤ diam n l := by
    obtain ⟨v, u, ⟨hv, hu⟩, e⟩ := diam_at l n1 n2
    have := joined_all h hj hv.1 hv.2 hu.1 hu.2
    omega
  have hD1 : diam n l < n := by
    obtain ⟨v, u, ⟨hv, hu⟩, e⟩ := diam_at l n1 n2
    have := (dist_of n l v (by omega)).small u hu.1 hu.2
    omega
  have main : ∀ (d : Nat) (v : Int) (up dn : List Int), 0 ≤ v → v ≤ n → n - v = d → InvS n l v 0 up dn → ∃ p, Found n l p ∧ (p.1.length ≤ 62 ∧ p.2.1.length ≤ 62) ∧ Ev (fun k => spec_l06Arrays.l1 k (dists n l n.toNat) (diam n l) up dn v n l) p := by
    intro d
    induction d with
    | zero =>
      intro v up dn v0 v1 hd hI
      obtain ⟨⟨lu, ld⟩, hI⟩ := hI
      obtain rfl : v = n := by omega
      have hall : ∀ a b, ((0 ≤ a ∧ a < v) ∧ (0 ≤ b ∧ b < v)) → upN v l a b = rd up (rd (dist v l a) b) ∧ dnN v l a b = rd dn (rd (dist v l a) b) := fun a b hab => by
        have x0 := joined_all h hj hab.1.1 hab.1.2 hab.2.1 hab.2.2
        have x1 := diam_le l n1 n2 hab.1.1 hab.1.2 hab.2.1 hab.2.2
        rcases hI _ x0 x1 with ⟨_, z⟩ | ⟨_, z⟩
        · exact absurd rfl (z a b ⟨hab, by omega⟩)
        · exact z a b ⟨hab, by omega⟩ rfl
      refine ⟨(up.take (diam v l).toNat, dn.drop 1, true), .inl ⟨rfl, fun a b a' b' hab hab' e => ?_, ⟨by simp; omega, fun a b hab hlt => ?_⟩, ⟨by simp; omega, fun a b hab hlt => ?_⟩⟩, ⟨by simp; omega, by simp; omega⟩, ev_k ?_⟩
      · rw [(hall a b hab).1, (hall a b hab).2, (hall a' b' hab').1, (hall a' b' hab').2, e]
        exact ⟨rfl, rfl⟩
      · have x0 := joined_all h hj hab.1.1 hab.1.2 hab.2.1 hab.2.2
        rw [(hall a b hab).1]
        simp only [rd, List.getD_eq_getElem?_getD]
        rw [List.getElem?_take_of_lt (by simp only [rd, List.getD_eq_getElem?_getD] at hlt x0; omega)]
      · rw [(hall a b hab).2]
        generalize rd (dist v l a) b = i at hlt
        simp only [rd, List.getD_eq_getElem?_getD, List.getElem?_drop]
        rw [show 1 + (i - 1).toNat = i.toNat by omega]
      · simp only [spec_l06Arrays.l1]
        refine ev_neg (by omega) (ev_pos hD0 (ev_pos (by omega) ?_))
        rw [a_own _ (by simp; omega), a_own _ (by simp; omega)]
        simp only [Option.bind_some]
        exact ev_pos (by omega) (Ev.now _)
    | succ d ih =>
      intro v up dn v0 v1 hd hI
      have hv := rd_dists l v0 (by omega : v < n)
      have hvl := (dist_of n l v (by omega)).len
      have inner : ∀ (e : Nat) (w : Int) (up dn : List Int), 0 ≤ w → w ≤ n → n - w = e → InvS n l v w up dn → ∃ p, Found n l p ∧ (p.1.length ≤ 62 ∧ p.2.1.length ≤ 62) ∧ Ev (fun k => spec_l06Arrays.l2 k (dists n l n.toNat) (diam n l) up dn v w n l) p := by
        intro e
        induction e with
        | zero =>
          intro w up dn w0 w1 he hI
          obtain ⟨p, hp, hpl, hE⟩ := ih (v + 1) up dn (by omega) (by omega) (by omega) (by
            have hP : ∀ a b, Pr n (v + 1) 0 a b ↔ Pr n v w a b := fun a b => by unfold Pr; omega
            refine ⟨hI.1, fun i i0 i1 => ?_⟩
            rcases hI.2 i i0 i1 with ⟨x, y⟩ | ⟨⟨a, b, x, y⟩, z⟩
            · exact .inl ⟨x, fun a b q => y a b ((hP a b).1 q)⟩
            · exact .inr ⟨⟨a, b, (hP a b).2 x, y⟩, fun a b q => z a b ((hP a b).1 q)⟩)
          refine ⟨p, hp, hpl, ev_k ?_⟩
          simp only [spec_l06Arrays.l2]
          rw [w64 (a := v + 1) (by omega) (by omega)]
          exact ev_neg (by omega) hE
        | succ e ihe =>
          intro w up dn w0 w1 he hI
          have hrow := h.1.2.2.2 w w0 (by omega)
          have hvw : (0 ≤ v ∧ v < n) ∧ (0 ≤ w ∧ w < n) := by omega
          have i0 := joined_all h hj v0 hvw.1.2 w0 hvw.2.2
          have i1 := diam_le l n1 n2 v0 hvw.1.2 w0 hvw.2.2
          have hto := ones_to (n := n) (by omega) n2 hrow.1 hrow.2
          -- behind the count
          have fin : ∃ p, Found n l p ∧ (p.1.length ≤ 62 ∧ p.2.1.length ≤ 62) ∧ Ev (fun k => spec_l06Arrays.l3 k (dists n l n.toNat) (diam n l) up dn v w (rd (dist n l v) w) (upN n l v w) (dnN n l v w) n n l) p := by
            have next : (∀ a b, Pr n v w a b → rd (dist n l a) b = rd (dist n l v) w → upN n l a b = upN n l v w ∧ dnN n l a b = dnN n l v w) → ∃ p, Found n l p ∧ (p.1.length ≤ 62 ∧ p.2.1.length ≤ 62) ∧ Ev (fun k => spec_l06Arrays.l2 k (dists n l n.toNat) (diam n l) (up.set (rd (dist n l v) w).toNat (upN n l v w)) (dn.set (rd (dist n l v) w).toNat (dnN n l v w)) v (w + 1) n l) p := by
              intro same
              obtain ⟨⟨lu, ld⟩, hI⟩ := hI
              refine ihe (w + 1) _ _ (by omega) (by omega) (by omega) ⟨⟨by simpa using lu, by simpa using ld⟩, fun i j0 j1 => ?_⟩
              rw [rd_set _ i0 (by omega) j0, rd_set _ i0 (by omega) j0]
              by_cases z : i = rd (dist n l v) w
              · rw [if_pos z, if_pos z]
                refine .inr ⟨⟨v, w, Pr_next.2 (.inr ⟨hvw, rfl, rfl⟩), z.symm, rfl, rfl⟩, fun a b q e => ?_⟩
                rcases Pr_next.1 q with q | ⟨_, rfl, rfl⟩
                · exact same a b q (e.trans z)
                · exact ⟨rfl, rfl⟩
              · rw [if_neg z, if_neg z]
                rcases hI i j0 j1 with ⟨x, y⟩ | ⟨⟨a, b, x, y⟩, t⟩
                · refine .inl ⟨x, fun a b q e => ?_⟩
                  rcases Pr_next.1 q with q | ⟨_, rfl, rfl⟩
                  · exact y a b q e
                  · exact z e.symm
                · refine .inr ⟨⟨a, b, Pr_next.2 (.inl x), y⟩, fun a b q e => ?_⟩
                  rcases Pr_next.1 q with q | ⟨_, rfl, rfl⟩
                  · exact t a b q e
                  · exact absurd e.symm z
            have lu := hI.1.1
            have ld := hI.1.2
            rcases hI.2 _ i0 i1 with ⟨x, y⟩ | ⟨⟨a, b, x, e1, e2, e3⟩, t⟩
            · obtain ⟨p, hp, hpl, hE⟩ := next fun a b q e => absurd e (y a b q)
              refine ⟨p, hp, hpl, ev_k ?_⟩
              simp only [spec_l06Arrays.l3]
              rw [w64 (a := w + 1) (by omega) (by omega)]
              exact ev_neg (by omega) (ev_pos i0 (ev_pos (by omega) (ev_neg (by omega) (ev_pos (by omega) hE))))
            · have hu0 : rd up (rd (dist n l v) w) ≥ 0 := by rw [e2]; exact (cn_range _ _ _).1
              by_cases c1 : rd up (rd (dist n l v) w) = upN n l v w
              · by_cases c2 : rd dn (rd (dist n l v) w) = dnN n l v w
                · obtain ⟨p, hp, hpl, hE⟩ := next fun a b q e => by rw [(t a b q e).1, (t a b q e).2, c1, c2]; exact ⟨rfl, rfl⟩
                  refine ⟨p, hp, hpl, ev_k ?_⟩
                  simp only [spec_l06Arrays.l3]
                  rw [w64 (a := w + 1) (by omega) (by omega)]
                  exact ev_neg (by omega) (ev_pos i0 (ev_pos (by omega) (ev_pos hu0 (ev_pos c1 (ev_pos (by omega) (ev_pos c2 hE))))))
                · refine ⟨([], [], false), .inr ⟨rfl, fun q => c2 ?_⟩, by simp, ev_k ?_⟩
                  · rw [e3]; exact (q a b v w x.1 hvw e1).2
                  · simp only [spec_l06Arrays.l3]
                    exact ev_neg (by omega) (ev_pos i0 (ev_pos (by omega) (ev_pos hu0 (ev_pos c1 (ev_pos (by omega) (ev_neg c2 (Ev.now _)))))))
              · refine ⟨([], [], false), .inr ⟨rfl, fun q => c1 ?_⟩, by simp, ev_k ?_⟩
                · rw [e2]; exact (q a b v w x.1 hvw e1).1
                · simp only [spec_l06Arrays.l3]
                  exact ev_neg (by omega) (ev_pos i0 (ev_pos (by omega) (ev_pos hu0 (ev_neg c1 (Ev.now _)))))
          have count : ∀ (c x : Nat), (x : Int) ≤ n → n - x = c → ∃ p, Found n l p ∧ (p.1.length ≤ 62 ∧ p.2.1.length ≤ 62) ∧ Ev (fun k => spec_l06Arrays.l3 k (dists n l n.toNat) (diam n l) up dn v w (rd (dist n l v) w) (cn (dist n l v) (onesFrom (rd l w).toNat x 0) (rd (dist n l v) w + 1)) (cn (dist n l v) (onesFrom (rd l w).toNat x 0) (rd (dist n l v) w - 1)) (x : Int) n l) p := by
            intro c
            induction c with
            | zero =>
              intro x x1 hc
              rw [show (x : Int) = n by omega, show x = n.toNat by omega, ← hto]
              exact fin
            | succ c ihc =>
              intro x x1 hc
              obtain ⟨p, hp, hpl, hE⟩ := ihc (x + 1) (by omega) (by omega)
              refine ⟨p, hp, hpl, ev_k ?_⟩
              have htb : tb (rd l w) (x : Int) = (rd l w).toNat.testBit x := by rw [tb_toNat hrow.1 (by omega), Int.toNat_natCast]
              have bq : bits .and .i64 (shr .i64 (rd l w) (x : Int)) 1 = 0 ↔ ¬ tb (rd l w) (x : Int) = true := by
                rw [bit_at (by omega) (by omega)]
                cases tb (rd l w) (x : Int) <;> simp
              have hol := onesFrom_length (rd l w).toNat x 0
              have r1 := cn_range (dist n l v) (onesFrom (rd l w).toNat x 0) (rd (dist n l v) w + 1)
              have r2 := cn_range (dist n l v) (onesFrom (rd l w).toNat x 0) (rd (dist n l v) w - 1)
              rw [onesFrom_add, cn_app, cn_app] at hE
              simp only [onesFrom, Nat.zero_add] at hE
              generalize cn (dist n l v) (onesFrom (rd l w).toNat x 0) (rd (dist n l v) w + 1) = A at *
              generalize cn (dist n l v) (onesFrom (rd l w).toNat x 0) (rd (dist n l v) w - 1) = B at *
              simp only [spec_l06Arrays.l3]
              rw [wu64 (a := (x : Int)) (by omega) (by omega), w64 (a := (x : Int) + 1) (by omega) (by omega), hv, w64 (a := rd (dist n l v) w + 1) (by omega) (by omega), w64 (a := rd (dist n l v) w - 1) (by omega) (by omega), w64 (a := A + 1) (by omega) (by omega), w64 (a := B + 1) (by omega) (by omega)]
              refine ev_pos (by omega) (ev_pos w0 (ev_pos (by omega) (ev_pos (by omega) ?_)))
              by_cases ht : tb (rd l w) (x : Int) = true
              · rw [if_pos (by rw [← htb]; exact ht), cn_one, cn_one] at hE
                refine ev_neg (fun z => bq.1 z ht) (ev_pos v0 (ev_pos (by omega) (ev_pos (by omega) (ev_pos (by omega) ?_))))
                by_cases z1 : rd (dist n l v) (x : Int) = rd (dist n l v) w + 1
                · rw [if_pos z1, if_neg (by omega), Int.add_zero] at hE
                  exact ev_pos z1 (ev_neg (by omega) hE)
                · by_cases z2 : rd (dist n l v) (x : Int) = rd (dist n l v) w - 1
                  · rw [if_neg z1, if_pos z2, Int.add_zero] at hE
                    exact ev_neg z1 (ev_pos z2 hE)
                  · rw [if_neg z1, if_neg z2, Int.add_zero, Int.add_zero] at hE
                    exact ev_neg z1 (ev_neg z2 hE)
              · rw [if_neg (by rw [← htb]; exact ht), cn_nil, cn_nil, Int.add_zero, Int.add_zero] at hE
                exact ev_pos (bq.2 ht) hE
          obtain ⟨p, hp, hpl, hE⟩ := count n.toNat 0 (by omega) (by omega)
          refine ⟨p, hp, hpl, ev_k ?_⟩
          simp only [spec_l06Arrays.l2]
          rw [hv]
          exact ev_pos (by omega) (ev_pos v0 (ev_pos (by omega) (ev_pos w0 (ev_pos (by omega) hE))))
      obtain ⟨p, hp, hpl, hE⟩ := inner n.toNat 0 up dn (by omega) (by omega) (by omega) hI
      refine ⟨p, hp, hpl, ev_k ?_⟩
      simp only [spec_l06Arrays.l1]
      exact ev_pos (by omega) hE
  have fill : ∀ (c i : Nat) (up dn : List Int), (i : Int) ≤ diam n l + 1 → diam n l + 1 - i = c → (up.length : Int) = diam n l + 1 → (dn.length : Int) = diam n l + 1 → (∀ j, 0 ≤ j → j < (i : Int) → rd up j = -1) → ∃ p, Found n l p ∧ (p.1.length ≤ 62 ∧ p.2.1.length ≤ 62) ∧ Ev (fun k => spec_l06Arrays.l0 k (dists n l n.toNat) (diam n l) up dn (diam n l + 1) i n l) p := by
    intro c
    induction c with
    | zero =>
      intro i up dn i1 hc lu ld hu
      obtain ⟨p, hp, hpl, hE⟩ := main n.toNat 0 up dn (by omega) (by omega) (by omega) ⟨⟨lu, ld⟩, fun j j0 j1 => .inl ⟨hu j j0 (by omega), fun a b q => by unfold Pr at q; omega⟩⟩
      refine ⟨p, hp, hpl, ev_k ?_⟩
      simp only [spec_l06Arrays.l0]
      exact ev_neg (by omega) hE
    | succ c ihc =>
      intro i up dn i1 hc lu ld hu
      obtain ⟨p, hp, hpl, hE⟩ := ihc (i + 1) (up.set i (-1)) (dn.set i (-1)) (by omega) (by omega) (by simpa using lu) (by simpa using ld) (fun j j0 j1 => by
        have := rd_set (l := up) (i := (i : Int)) (j := j) (-1) (by omega) (by omega) j0
        rw [Int.toNat_natCast] at this
        rw [this]
        by_cases z : j = i
        · rw [if_pos z]
        · rw [if_neg z]
          exact hu j j0 (by omega))
      refine ⟨p, hp, hpl, ev_k ?_⟩
      simp only [spec_l06Arrays.l0]
      rw [w64 (a := (i : Int) + 1) (by omega) (by omega), Int.toNat_natCast]
      exact ev_pos (by omega) (ev_pos (by omega) (ev_pos (by omega) (ev_pos (by omega) hE)))
  obtain ⟨p, hp, hpl, hE⟩ := fill (diam n l + 1).toNat 0 (List.replicate (diam n l + 1).toNat 0) (List.replicate (diam n l + 1).toNat 0) (by omega) (by omega) (by simp; omega) (by simp; omega) (fun j j0 j1 => by omega)
  refine ⟨p, hp, hpl, ?_⟩
  unfold spec_l06Arrays.f
  refine Ev.bind (s_rows h.1) (Ev.bind hdm ?_)
  rw [w64 (a := diam n l + 1) (by omega) (by omega)]
  refine ev_pos (by omega) (ev_pos (by omega) ?_)
  simp only [Option.bind_some]
  rw [show ((List.replicate (diam n l + 1).toNat (0 : Int)).length : Int) = diam n l + 1 by simp; omega]
  exact hE
end
end Go.Proofs.YtkmpkcofddpdgaaDoor.Q
namespace Go.Proofs.YtkmpkcofddpdgaaDoor.Q
open Go Go.RowKit Go.Proofs.YtkmpkcofddpdgaaDoor.P Go.Proofs.YtkmpkcofddpdgaaDoorW.PrintWords Go.Proofs.YtkmpkcofddpdgaaDoorW.PrintMore
def InvI (n : Int) (l : List Int) (v w : Int) (b c : List Int) : Prop := ((b.length : Int) = diam n l ∧ (c.length : Int) = diam n l) ∧
  (∀ i, 0 ≤ i → i < diam n l → (rd b i = 0 ∧ ∀ x y, Pr n v w x y → rd (dist n l x) y ≠ i) ∨ ((∃ x y, Pr n v w x y ∧ rd (dist n l x) y = i ∧ rd b i = upN n l x y ∧ rd b i ≠ 0) ∧ ∀ x y, Pr n v w x y → rd (dist n l x) y = i → upN n l x y = rd b i)) ∧
  (∀ i, 0 < i → i ≤ diam n l → (rd c (i - 1) = 0 ∧ ∀ x y, Pr n v w x y → rd (dist n l x) y ≠ i) ∨ ((∃ x y, Pr n v w x y ∧ rd (dist n l x) y = i ∧ rd c (i - 1) = dnN n l x y ∧ rd c (i - 1) ≠ 0) ∧ ∀ x y, Pr n v w x y → rd (dist n l x) y = i → dnN n l x y = rd c (i - 1)))
section
variable {n : Int} {l : List Int} (h : isG n l) (hj : joinedG n l)
include h hj
theorem i_arrays : ∃ p, Found n l p ∧ Ev (fun k => impl_Graph_arrays.f k n l) p := by
  have n1 := h.1.1
  have n2 := h.1.2.1
  have hl := h.1.2.2.1
  have hel := eccs_length n l n.toNat
  obtain ⟨D, hD, hmax⟩ := r_max (eccs n l n.toNat) (by omega) (by omega)
  have eD : D = diam n l := hmax.uniq (diam_max l n1 n2)
  rw [eD] at hD
  have hD0 : 0 ≤ diam n l := by
    obtain ⟨v, u, ⟨hv, hu⟩, e⟩ := diam_at l n1 n2
    have := joined_all h hj hv.1 hv.2 hu.1 hu.2
    omega
  have hD1 : diam n l < n := by
    obtain ⟨v, u, ⟨hv, hu⟩, e⟩ := diam_at l n1 n2
    have := (dist_of n l v (by omega)).small u hu.1 hu.2
    omega
  have main : ∀ (d : Nat) (v : Int) (b c : List Int), 0 ≤ v → v ≤ n → n - v = d → InvI n l v 0 b c → ∃ p, Found n l p ∧ Ev (fun k => impl_Graph_arrays.l0 k (diam n l) b c n v n l) p := by
    intro d
    induction d with
    | zero =>
      intro v b c v0 v1 hd hI
      obtain ⟨⟨lb, lc⟩, hB, hC⟩ := hI
      obtain rfl : v = n := by omega
      have hallB : ∀ x y, ((0 ≤ x ∧ x < v) ∧ (0 ≤ y ∧ y < v)) → rd (dist v l x) y < diam v l → upN v l x y = rd b (rd (dist v l x) y) := fun x y hxy hlt => by
        have x0 := joined_all h hj hxy.1.1 hxy.1.2 hxy.2.1 hxy.2.2
        rcases hB _ x0 hlt with ⟨_, z⟩ | ⟨_, z⟩
        · exact absurd rfl (z x y ⟨hxy, by omega⟩)
        · exact z x y ⟨hxy, by omega⟩ rfl
      have hallC : ∀ x y, ((0 ≤ x ∧ x < v) ∧ (0 ≤ y ∧ y < v)) → 0 < rd (dist v l x) y → dnN v l x y = rd c (rd (dist v l x) y - 1) := fun x y hxy hlt => by
        have x1 := diam_le l n1 n2 hxy.1.1 hxy.1.2 hxy.2.1 hxy.2.2
        rcases hC _ hlt x1 with ⟨_, z⟩ | ⟨_, z⟩
        · exact absurd rfl (z x y ⟨hxy, by omega⟩)
        · exact z x y ⟨hxy, by omega⟩ rfl
      refine ⟨(b, c, true), .inl ⟨rfl, fun x y x' y' hxy hxy' e => ?_, ⟨lb, fun x y hxy hlt => (hallB x y hxy hlt).symm⟩, ⟨lc, fun x y hxy hlt => (hallC x y hxy hlt).symm⟩⟩, ev_k ?_⟩
      · have x1 := diam_le l n1 n2 hxy.1.1 hxy.1.2 hxy.2.1 hxy.2.2
        have x0 := joined_all h hj hxy.1.1 hxy.1.2 hxy.2.1 hxy.2.2
        constructor
        · by_cases z : rd (dist v l x) y < diam v l
          · rw [hallB x y hxy z, hallB x' y' hxy' (by omega), e]
          · rw [up_end h hxy.1 hxy.2 (by omega), up_end h hxy'.1 hxy'.2 (by omega)]
        · by_cases z : 0 < rd (dist v l x) y
          · rw [hallC x y hxy z, hallC x' y' hxy' (by omega), e]
          · rw [dn_end h hj hxy.1 hxy.2 (by omega), dn_end h hj hxy'.1 hxy'.2 (by omega)]
      · simp only [impl_Graph_arrays.l0]
        exact ev_neg (by omega) (Ev.now _)
    | succ d ih =>
      intro v b c v0 v1 hd hI
      have hdist := dist_of n l v (by omega)
      have hvl := hdist.len
      have inner : ∀ (e : Nat) (w : Int) (b c : List Int), 0 ≤ w → w ≤ n → n - w = e → InvI n l v w b c → ∃ p, Found n l p ∧ Ev (fun k => impl_Graph_arrays.l1 k (diam n l) b c (dist n l v) n v (dist n l v) ((dist n l v).length : Int) w n l) p := by
        intro e
        induction e with
        | zero =>
          intro w b c w0 w1 he hI
          obtain ⟨p, hp, hE⟩ := ih (v + 1) b c (by omega) (by omega) (by omega) (by
            have hP : ∀ x y, Pr n (v + 1) 0 x y ↔ Pr n v w x y := fun x y => by unfold Pr; omega
            refine ⟨hI.1, fun i i0 i1 => ?_, fun i i0 i1 => ?_⟩
            · rcases hI.2.1 i i0 i1 with ⟨s, t⟩ | ⟨⟨x, y, s, t⟩, z⟩
              · exact .inl ⟨s, fun x y q => t x y ((hP x y).1 q)⟩
              · exact .inr ⟨⟨x, y, (hP x y).2 s, t⟩, fun x y q => z x y ((hP x y).1 q)⟩
            · rcases hI.2.2 i i0 i1 with ⟨s, t⟩ | ⟨⟨x, y, s, t⟩, z⟩
              · exact .inl ⟨s, fun x y q => t x y ((hP x y).1 q)⟩
              · exact .inr ⟨⟨x, y, (hP x y).2 s, t⟩, fun x y q => z x y ((hP x y).1 q)⟩)
          refine ⟨p, hp, ev_k ?_⟩
          simp only [impl_Graph_arrays.l1]
          rw [w64 (a := v + 1) (by omega) (by omega)]
          exact ev_neg (by omega) hE
        | succ e ihe =>
          intro w b c w0 w1 he hI
          have hrow := h.1.2.2.2 w w0 (by omega)
          have hpw := two_pow_le (n := n) (by omega) n2
          have hvw : (0 ≤ v ∧ v < n) ∧ (0 ≤ w ∧ w < n) := by omega
          have i0 := joined_all h hj v0 hvw.1.2 w0 hvw.2.2
          have i1 := diam_le l n1 n2 v0 hvw.1.2 w0 hvw.2.2
          have ol := ones_length (rd l w)
          have om := fun u => ones_mem (n := n) (by omega) n2 hrow.1 hrow.2 u
          have hUr := cn_range (dist n l v) (ones (rd l w)) (rd (dist n l v) w + 1)
          have hNr := cn_range (dist n l v) (ones (rd l w)) (rd (dist n l v) w - 1)
          have hdp := fun z => dn_pos h hvw.1 hvw.2 z
          obtain ⟨⟨lb, lc⟩, hB, hC⟩ := hI
          -- what the new lists are to say
          have goB : ∀ b' : List Int, (b'.length : Int) = diam n l → (∀ i, 0 ≤ i → i < diam n l → i ≠ rd (dist n l v) w → rd b' i = rd b i) → (rd (dist n l v) w < diam n l → rd b' (rd (dist n l v) w) = upN n l v w ∧ upN n l v w ≠ 0 ∧ ∀ x y, Pr n v w x y → rd (dist n l x) y = rd (dist n l v) w → upN n l x y = upN n l v w) → ∀ i, 0 ≤ i → i < diam n l → (rd b' i = 0 ∧ ∀ x y, Pr n v (w + 1) x y → rd (dist n l x) y ≠ i) ∨ ((∃ x y, Pr n v (w + 1) x y ∧ rd (dist n l x) y = i ∧ rd b' i = upN n l x y ∧ rd b' i ≠ 0) ∧ ∀ x y, Pr n v (w + 1) x y → rd (dist n l x) y = i → upN n l x y = rd b' i) := by
            intro b' _ hold hnew i j0 j1
            by_cases z : i = rd (dist n l v) w
            · obtain ⟨e1, e2, e3⟩ := hnew (by omega)
              rw [z, e1]
              refine .inr ⟨⟨v, w, Pr_next.2 (.inr ⟨hvw, rfl, rfl⟩), rfl, rfl, e2⟩, fun x y q e => ?_⟩
              rcases Pr_next.1 q with q | ⟨_, rfl, rfl⟩
              · exact e3 x y q e
              · rfl
            · rw [hold i j0 j1 z]
              rcases hB i j0 j1 with ⟨s, t⟩ | ⟨⟨x, y, s, t⟩, r⟩
              · refine .inl ⟨s, fun x y q e => ?_⟩
                rcases Pr_next.1 q with q | ⟨_, rfl, rfl⟩
                · exact t x y q e
                · exact z e.symm
              · refine .inr ⟨⟨x, y, Pr_next.2 (.inl s), t⟩, fun x y q e => ?_⟩
                rcases Pr_next.1 q with q | ⟨_, rfl, rfl⟩
                · exact r x y q e
                · exact absurd e.symm z
          have goC : ∀ c' : List Int, (c'.length : Int) = diam n l → (∀ i, 0 < i → i ≤ diam n l → i ≠ rd (dist n l v) w → rd c' (i - 1) = rd c (i - 1)) → (0 < rd (dist n l v) w → rd c' (rd (dist n l v) w - 1) = dnN n l v w ∧ ∀ x y, Pr n v w x y → rd (dist n l x) y = rd (dist n l v) w → dnN n l x y = dnN n l v w) → ∀ i, 0 < i → i ≤ diam n l → (rd c' (i - 1) = 0 ∧ ∀ x y, Pr n v (w + 1) x y → rd (dist n l x) y ≠ i) ∨ ((∃ x y, Pr n v (w + 1) x y ∧ rd (dist n l x) y = i ∧ rd c' (i - 1) = dnN n l x y ∧ rd c' (i - 1) ≠ 0) ∧ ∀ x y, Pr n v (w + 1) x y → rd (dist n l x) y = i → dnN n l x y = rd c' (i - 1)) := by
            intro c' _ hold hnew i j0 j1
            by_cases z : i = rd (dist n l v) w
            · obtain ⟨e1, e3⟩ := hnew (by omega)
              have := hdp (by omega)
              rw [z, e1]
              refine .inr ⟨⟨v, w, Pr_next.2 (.inr ⟨hvw, rfl, rfl⟩), rfl, rfl, by omega⟩, fun x y q e => ?_⟩
              rcases Pr_next.1 q with q | ⟨_, rfl, rfl⟩
              · exact e3 x y q e
              · rfl
            · rw [hold i j0 j1 z]
              rcases hC i j0 j1 with ⟨s, t⟩ | ⟨⟨x, y, s, t⟩, r⟩
              · refine .inl ⟨s, fun x y q e => ?_⟩
                rcases Pr_next.1 q with q | ⟨_, rfl, rfl⟩
                · exact t x y q e
                · exact z e.symm
              · refine .inr ⟨⟨x, y, Pr_next.2 (.inl s), t⟩, fun x y q e => ?_⟩
                rcases Pr_next.1 q with q | ⟨_, rfl, rfl⟩
                · exact r x y q e
                · exact absurd e.symm z
          have j3 : ∀ b' : List Int, (b'.length : Int) = diam n l → (∀ i, 0 ≤ i → i < diam n l → i ≠ rd (dist n l v) w → rd b' i = rd b i) → (rd (dist n l v) w < diam n l → rd b' (rd (dist n l v) w) = upN n l v w ∧ upN n l v w ≠ 0 ∧ ∀ x y, Pr n v w x y → rd (dist n l x) y = rd (dist n l v) w → upN n l x y = upN n l v w) → ∃ p, Found n l p ∧ Ev (fun k => impl_Graph_arrays.j3 k (diam n l) b' c (dist n l v) (rd (dist n l v) w) (dnN n l v w) n v (dist n l v) ((dist n l v).length : Int) w n l) p := by
            intro b' lb' hb1 hb2
            have hB' := goB b' lb' hb1 hb2
            by_cases hpos : rd (dist n l v) w > 0
            · have hdn := hdp hpos
              rcases hC _ hpos i1 with ⟨s, t⟩ | ⟨⟨x, y, s, e1, e2, e3⟩, t⟩
              · have hset := fun j j0 => rd_set (l := c) (i := rd (dist n l v) w - 1) (j := j) (dnN n l v w) (by omega) (by omega) j0
                obtain ⟨p, hp, hE⟩ := ihe (w + 1) b' (c.set (rd (dist n l v) w - 1).toNat (dnN n l v w)) (by omega) (by omega) (by omega) ⟨⟨lb', by simpa using lc⟩, hB', goC _ (by simpa using lc) (fun i j0 j1 z => by rw [hset _ (by omega), if_neg (by omega)]) (fun _ => ⟨by rw [hset _ (by omega), if_pos rfl], fun x y q e => absurd e (t x y q)⟩)⟩
                refine ⟨p, hp, ev_k ?_⟩
                simp only [impl_Graph_arrays.j3]
                rw [w64 (a := rd (dist n l v) w - 1) (by omega) (by omega), w64 (a := w + 1) (by omega) (by omega)]
                refine ev_pos hpos (ev_pos (by omega) (ev_pos (by omega) (ev_pos s ?_)))
                simp only [Option.bind_some]
                exact ev_pos (by rw [hset _ (by omega), if_pos rfl]) hE
              · by_cases z : dnN n l v w = rd c (rd (dist n l v) w - 1)
                · obtain ⟨p, hp, hE⟩ := ihe (w + 1) b' c (by omega) (by omega) (by omega) ⟨⟨lb', lc⟩, hB', goC c lc (fun _ _ _ _ => rfl) (fun _ => ⟨z.symm, fun x y q e => by rw [t x y q e, z]⟩)⟩
                  refine ⟨p, hp, ev_k ?_⟩
                  simp only [impl_Graph_arrays.j3]
                  rw [w64 (a := rd (dist n l v) w - 1) (by omega) (by omega), w64 (a := w + 1) (by omega) (by omega)]
                  exact ev_pos hpos (ev_pos (by omega) (ev_pos (by omega) (ev_neg e3 (ev_pos z hE))))
                · refine ⟨([], [], false), .inr ⟨rfl, fun q => z ?_⟩, ev_k ?_⟩
                  · rw [e2]
                    exact (q v w x y hvw s.1 e1.symm).2
                  · simp only [impl_Graph_arrays.j3]
                    rw [w64 (a := rd (dist n l v) w - 1) (by omega) (by omega)]
                    exact ev_pos hpos (ev_pos (by omega) (ev_pos (by omega) (ev_neg e3 (ev_neg z (Ev.now _)))))
            · obtain ⟨p, hp, hE⟩ := ihe (w + 1) b' c (by omega) (by omega) (by omega) ⟨⟨lb', lc⟩, hB', goC c lc (fun _ _ _ _ => rfl) (fun z => absurd z hpos)⟩
              refine ⟨p, hp, ev_k ?_⟩
              simp only [impl_Graph_arrays.j3]
              rw [w64 (a := w + 1) (by omega) (by omega)]
              exact ev_neg hpos hE
          have fin : ∃ p, Found n l p ∧ Ev (fun k => impl_Graph_arrays.l2 k (diam n l) b c (dist n l v) (rd (dist n l v) w) (upN n l v w) (dnN n l v w) n v (dist n l v) ((dist n l v).length : Int) w (ones (rd l w)) ((ones (rd l w)).length : Int) ((ones (rd l w)).length : Int) n l) p := by
            by_cases hlt : rd (dist n l v) w < diam n l
            · have bad : upN n l v w = 0 → ¬ DR n l := fun z q => by
                obtain ⟨x, y, hxy, e1, e2⟩ := up_some h i0 hlt
                have := (q v w x y hvw hxy e1.symm).1
                omega
              rcases hB _ i0 hlt with ⟨s, t⟩ | ⟨⟨x, y, s, e1, e2, e3⟩, t⟩
              · have hset := fun j j0 => rd_set (l := b) (i := rd (dist n l v) w) (j := j) (upN n l v w) i0 (by omega) j0
                by_cases z : upN n l v w = 0
                · refine ⟨([], [], false), .inr ⟨rfl, bad z⟩, ev_k ?_⟩
                  simp only [impl_Graph_arrays.l2]
                  refine ev_neg (by omega) (ev_pos hlt (ev_pos i0 (ev_pos (by omega) (ev_pos s ?_))))
                  simp only [Option.bind_some]
                  exact ev_pos (by rw [hset _ i0, if_pos rfl]) (ev_pos z (Ev.now _))
                · obtain ⟨p, hp, hE⟩ := j3 (b.set (rd (dist n l v) w).toNat (upN n l v w)) (by simpa using lb) (fun i j0 j1 z => by rw [hset _ j0, if_neg z]) (fun _ => ⟨by rw [hset _ i0, if_pos rfl], z, fun x y q e => absurd e (t x y q)⟩)
                  refine ⟨p, hp, ev_k ?_⟩
                  simp only [impl_Graph_arrays.l2]
                  refine ev_neg (by omega) (ev_pos hlt (ev_pos i0 (ev_pos (by omega) (ev_pos s ?_))))
                  simp only [Option.bind_some]
                  exact ev_pos (by rw [hset _ i0, if_pos rfl]) (ev_neg z hE)
              · by_cases z : upN n l v w = rd b (rd (dist n l v) w)
                · obtain ⟨p, hp, hE⟩ := j3 b lb (fun _ _ _ _ => rfl) (fun _ => ⟨z.symm, by rw [z]; exact e3, fun x y q e => by rw [t x y q e, z]⟩)
                  refine ⟨p, hp, ev_k ?_⟩
                  simp only [impl_Graph_arrays.l2]
                  exact ev_neg (by omega) (ev_pos hlt (ev_pos i0 (ev_pos (by omega) (ev_neg e3 (ev_pos z (ev_neg (by rw [z]; exact e3) hE))))))
                · refine ⟨([], [], false), .inr ⟨rfl, fun q => z ?_⟩, ev_k ?_⟩
                  · rw [e2]
                    exact (q v w x y hvw s.1 e1.symm).1
                  · simp only [impl_Graph_arrays.l2]
                    exact ev_neg (by omega) (ev_pos hlt (ev_pos i0 (ev_pos (by omega) (ev_neg e3 (ev_neg z (Ev.now _))))))
            · obtain ⟨p, hp, hE⟩ := j3 b lb (fun _ _ _ _ => rfl) (fun z => absurd z hlt)
              refine ⟨p, hp, ev_k ?_⟩
              simp only [impl_Graph_arrays.l2]
              exact ev_neg (by omega) (ev_neg hlt hE)
          have count : ∀ (ws pre : List Int), pre ++ ws = ones (rd l w) → ∃ p, Found n l p ∧ Ev (fun k => impl_Graph_arrays.l2 k (diam n l) b c (dist n l v) (rd (dist n l v) w) (cn (dist n l v) pre (rd (dist n l v) w + 1)) (cn (dist n l v) pre (rd (dist n l v) w - 1)) n v (dist n l v) ((dist n l v).length : Int) w (ones (rd l w)) ((ones (rd l w)).length : Int) (pre.length : Int) n l) p := by
            intro ws
            induction ws with
            | nil =>
              intro pre hpre
              rw [List.append_nil] at hpre
              rw [hpre]
              exact fin
            | cons u ws ihw =>
              intro pre hpre
              have hlt : pre.length < (ones (rd l w)).length := by rw [← hpre]; simp
              have hu : rd (ones (rd l w)) (pre.length : Int) = u := by
                rw [← hpre]
                simp [rd, List.getD_eq_getElem?_getD]
              obtain ⟨u0, u1, _⟩ := (om u).1 (by rw [← hpre]; simp)
              obtain ⟨p, hp, hE⟩ := ihw (pre ++ [u]) (by rw [← hpre]; simp)
              rw [cn_app, cn_app, cn_one, cn_one, List.length_append, List.length_singleton, Int.natCast_add] at hE
              have r1 := cn_range (dist n l v) pre (rd (dist n l v) w + 1)
              have r2 := cn_range (dist n l v) pre (rd (dist n l v) w - 1)
              generalize cn (dist n l v) pre (rd (dist n l v) w + 1) = A at *
              generalize cn (dist n l v) pre (rd (dist n l v) w - 1) = B at *
              refine ⟨p, hp, ev_k ?_⟩
              simp only [impl_Graph_arrays.l2, hu]
              rw [w64 (a := (pre.length : Int) + 1) (by omega) (by omega), w64 (a := rd (dist n l v) w + 1) (by omega) (by omega), w64 (a := rd (dist n l v) w - 1) (by omega) (by omega), w64 (a := A + 1) (by omega) (by omega), w64 (a := B + 1) (by omega) (by omega)]
              refine ev_pos (by omega) (ev_pos (by omega) (ev_pos (by omega) (ev_pos u0 (ev_pos (by omega) ?_))))
              by_cases z1 : rd (dist n l v) u = rd (dist n l v) w + 1
              · rw [if_pos z1, if_neg (by omega), Int.add_zero] at hE
                exact ev_pos z1 hE
              · by_cases z2 : rd (dist n l v) u = rd (dist n l v) w - 1
                · rw [if_neg z1, if_pos z2, Int.add_zero] at hE
                  exact ev_neg z1 (ev_pos z2 hE)
                · rw [if_neg z1, if_neg z2, Int.add_zero, Int.add_zero] at hE
                  exact ev_neg z1 (ev_neg z2 hE)
          obtain ⟨p, hp, hE⟩ := count (ones (rd l w)) [] rfl
          refine ⟨p, hp, ev_k ?_⟩
          simp only [impl_Graph_arrays.l1]
          exact ev_pos (by omega) (ev_pos w0 (ev_pos (by omega) (ev_pos (by omega) (Ev.bind (i_list hrow.1 (by omega)) hE))))
      obtain ⟨p, hp, hE⟩ := inner n.toNat 0 b c (by omega) (by omega) (by omega) hI
      refine ⟨p, hp, ev_k ?_⟩
      simp only [impl_Graph_arrays.l0]
      exact ev_pos (by omega) (Ev.bind (i_distances h.1 v0 (by omega) hdist) hE)
  have z0 : ∀ (m : Nat) (i : Int), rd (List.replicate m (0 : Int)) i = 0 := fun m i => by
    simp only [rd, List.getD_eq_getElem?_getD, List.getElem?_replicate]
    split <;> rfl
  obtain ⟨p, hp, hE⟩ := main n.toNat 0 (List.replicate (diam n l).toNat 0) (List.replicate (diam n l).toNat 0) (by omega) (by omega) (by omega) ⟨⟨by simp; omega, by simp; omega⟩, fun i _ _ => .inl ⟨z0 _ i, fun a b q => by unfold Pr at q; omega⟩, fun i _ _ => .inl ⟨z0 _ _, fun a b q => by unfold Pr at q; omega⟩⟩
  refine ⟨p, hp, ?_⟩
  unfold impl_Graph_arrays.f
  exact Ev.bind (i_reaches h.1) (Ev.bind hD (ev_pos hD0 (ev_pos (by omega) hE)))
theorem arrays_both : ∃ p : List Int × List Int × Bool, (p.1.length ≤ 62 ∧ p.2.1.length ≤ 62) ∧ Ev (fun k => spec_l06Arrays.f k n l) p ∧ Ev (fun k => impl_Graph_arrays.f k n l) p := by
  obtain ⟨p, hp, hpl, hs⟩ := s_arrays h hj
  obtain ⟨q, hq, hi⟩ := i_arrays h hj
  obtain rfl := Found.uniq h hp hq
  exact ⟨p, hpl, hs, hi⟩
end
end Go.Proofs.YtkmpkcofddpdgaaDoor.Q
namespace Go.Proofs.YtkmpkcofddpdgaaDoor.Q
open Go Go.RowKit Go.Proofs.YtkmpkcofddpdgaaDoor.P Go.Proofs.YtkmpkcofddpdgaaDoorW.PrintWords Go.Proofs.YtkmpkcofddpdgaaDoorW.PrintMore
theorem rd_at (l : List Int) (i : Int) (h1 : i.toNat < l.length) : rd l i = l[i.toNat] := by
  simp [rd, List.getD_eq_getElem?_getD, List.getElem?_eq_getElem h1]
theorem toS_l0 (l : List Int) (hl : l.length < 9223372036854775807) (d : Nat) : ∀ (m : List Int) (i : Int), 0 ≤ i → i ≤ l.length → l.length - i = d → m.length = l.length → (∀ j, j < i.toNat → m[j]? = l[j]?) →
    Ev (fun k => laws_toInt64S.l0 k l m i) l := by
  induction d with
  | zero =>
    intro m i h0 h1 hd hm hj
    refine ev_k ?_
    simp only [laws_toInt64S.l0]
    refine ev_neg (by omega) (ev_some (List.ext_getElem? fun j => ?_))
    by_cases h : j < i.toNat
    · exact hj j h
    · rw [List.getElem?_eq_none (by omega), List.getElem?_eq_none (by omega)]
  | succ d ih =>
    intro m i h0 h1 hd hm hj
    refine ev_k ?_
    simp only [laws_toInt64S.l0]
    refine ev_pos (by omega) (ev_pos h0 (ev_pos (by omega) ?_))
    rw [w64 (a := i + 1) (by omega) (by omega)]
    refine ih _ (i + 1) (by omega) (by omega) (by omega) (by simpa using hm) fun j h => ?_
    rw [List.getElem?_set]
    split
    · subst_vars
      rw [if_pos (by omega), rd_at l i (by omega), List.getElem?_eq_getElem]
    · exact hj j (by omega)
theorem toS (l : List Int) (hl : l.length ≤ 35184372088832) : Ev (fun k => laws_toInt64S.f k l) l := by
  unfold laws_toInt64S.f
  refine ev_pos (by omega) (ev_pos (by omega) ?_)
  exact toS_l0 l (by omega) l.length _ 0 (by omega) (by omega) (by omega) (by simp) (fun j h => by simp at h)
theorem eqS_l0 (l m : List Int) (e : l.length = m.length) (hl : l.length < 9223372036854775807) (d : Nat) : ∀ (i : Int), 0 ≤ i → i ≤ l.length → l.length - i = d →
    Ev (fun k => laws_eqInt64S.l0 k l m i) (decide (l.drop i.toNat = m.drop i.toNat)) := by
  have dc : ∀ (l : List Int) (i : Int), 0 ≤ i → i < l.length → l.drop i.toNat = rd l i :: l.drop (i + 1).toNat := fun l i h0 h1 => by
    rw [List.drop_eq_getElem_cons (by omega : i.toNat < l.length), show (i + 1).toNat = i.toNat + 1 by omega, rd_at l i (by omega)]
  induction d with
  | zero =>
    intro i h0 h1 hd
    refine ev_k ?_
    simp only [laws_eqInt64S.l0]
    refine ev_neg (by omega) (ev_some ?_)
    rw [List.drop_of_length_le (by omega), List.drop_of_length_le (by omega)]
    rfl
  | succ d ih =>
    intro i h0 h1 hd
    refine ev_k ?_
    simp only [laws_eqInt64S.l0]
    refine ev_pos (by omega) (ev_pos h0 (ev_pos (by omega) ?_))
    rw [w64 (a := i + 1) (by omega) (by omega), dc l i h0 (by omega), dc m i h0 (by omega)]
    by_cases h : rd l i = rd m i
    · refine ev_pos h ?_
      simp only [List.cons.injEq, h, true_and]
      exact ih (i + 1) (by omega) (by omega) (by omega)
    · refine ev_neg h (ev_some ?_)
      simp [h]
theorem eqS (l m : List Int) (hl : l.length < 9223372036854775807) : Ev (fun k => laws_eqInt64S.f k l m) (decide (l = m)) := by
  unfold laws_eqInt64S.f
  by_cases e : l.length = m.length
  · refine ev_pos (by omega) ?_
    simpa using eqS_l0 l m e hl l.length 0 (by omega) (by omega) (by omega)
  · refine ev_neg (by omega) (ev_some ?_)
    exact (decide_eq_false fun h => e (by rw [h])).symm
theorem eqS_self (l : List Int) (hl : l.length < 9223372036854775807) : Ev (fun k => laws_eqInt64S.f k l l) true := by
  simpa using eqS l l hl
theorem szS (l : List Int) (hl : l.length ≤ maxLen) : laws_szInt64S.f l 1048576 = some (if l.length ≤ 1048576 then 1048576 - (l.length : Int) else -1) := by
  unfold maxLen at hl
  unfold laws_szInt64S.f
  rw [w64 (by omega) (by omega)]
  by_cases h : l.length ≤ 1048576
  · rw [if_neg (by omega), if_pos h]
  · rw [if_pos (by omega), if_neg h]
def marks (a : Int) (n : Nat) : List Int := (List.range n).map fun (j : Nat) => a + (j : Int)
theorem marks_length (a : Int) (n : Nat) : (marks a n).length = n := by simp [marks]
theorem marks_at (a : Int) (n j : Nat) (h : j < n) : (marks a n)[j]? = some (a + j) := by
  simp [marks, h]
theorem mark_l0 (n : Nat) (a : Int) (ha : 0 ≤ a) (hn : a + n < 9223372036854775807) (d : Nat) : ∀ (m : List Int) (i : Int), 0 ≤ i → i ≤ n → n - i = d → m.length = n → (∀ j, j < i.toNat → m[j]? = some (a + j)) →
    Ev (fun k => laws_markInt64S.l0 k m (a + i) i) (a + n, marks a n) := by
  induction d with
  | zero =>
    intro m i h0 h1 hd hm hj
    refine ev_k ?_
    simp only [laws_markInt64S.l0]
    refine ev_neg (by omega) (ev_some ?_)
    have : m = marks a n := by
      refine List.ext_getElem? fun j => ?_
      by_cases h : j < n
      · rw [hj j (by omega), marks_at a n j h]
      · rw [List.getElem?_eq_none (by omega), List.getElem?_eq_none (by rw [marks_length]; omega)]
    rw [this, show i = n by omega]
  | succ d ih =>
    intro m i h0 h1 hd hm hj
    refine ev_k ?_
    simp only [laws_markInt64S.l0]
    refine ev_pos (by omega) (ev_pos h0 ?_)
    rw [w64 (a := i + 1) (by omega) (by omega), w64 (a := a + i + 1) (by omega) (by omega), show a + i + 1 = a + (i + 1) by omega]
    refine ih _ (i + 1) (by omega) (by omega) (by omega) (by simpa using hm) fun j h => ?_
    rw [List.getElem?_set]
    split
    · subst_vars
      rw [if_pos (by omega), Int.toNat_of_nonneg h0]
    · exact hj j (by omega)
theorem markS (l : List Int) (a : Int) (ha : 0 ≤ a) (hn : a + l.length < 9223372036854775807) : Ev (fun k => laws_markInt64S.f k l a) (a + l.length, marks a l.length) := by
  unfold laws_markInt64S.f
  have h := mark_l0 l.length a ha hn l.length l 0 (by omega) (by omega) (by omega) rfl (fun j h => by simp at h)
  rwa [Int.add_zero] at h
theorem held_l0 (n : Nat) (a : Int) (ha : 0 ≤ a) (hn : a + n < 9223372036854775807) (d : Nat) : ∀ (i : Int), 0 ≤ i → i ≤ n → n - i = d →
    Ev (fun k => laws_heldInt64S.l0 k (marks a n) (a + i) i) (a + n) := by
  induction d with
  | zero =>
    intro i h0 h1 hd
    refine ev_k ?_
    simp only [laws_heldInt64S.l0]
    exact ev_neg (by rw [marks_length]; omega) (ev_some (by omega))
  | succ d ih =>
    intro i h0 h1 hd
    refine ev_k ?_
    simp only [laws_heldInt64S.l0]
    refine ev_pos (by rw [marks_length]; omega) (ev_pos h0 (ev_pos ?_ ?_))
    · have := marks_at a n i.toNat (by omega)
      simp only [rd, List.getD_eq_getElem?_getD, this, Option.getD_some]
      omega
    · rw [w64 (a := i + 1) (by omega) (by omega), w64 (a := a + i + 1) (by omega) (by omega), show a + i + 1 = a + (i + 1) by omega]
      exact ih (i + 1) (by omega) (by omega) (by omega)
theorem heldS (n : Nat) (a : Int) (ha : 0 ≤ a) (hn : a + n < 9223372036854775807) : Ev (fun k => laws_heldInt64S.f k (marks a n) a) (a + n) := by
  unfold laws_heldInt64S.f
  have h := held_l0 n a ha hn n 0 (by omega) (by omega) (by omega)
  rwa [Int.add_zero] at h
end Go.Proofs.YtkmpkcofddpdgaaDoor.Q
namespace Go.Proofs.YtkmpkcofddpdgaaDoor.Q
open Go Go.RowKit Go.Proofs.YtkmpkcofddpdgaaDoor.P Go.Proofs.YtkmpkcofddpdgaaDoorW.PrintWords Go.Proofs.YtkmpkcofddpdgaaDoorW.PrintMore
theorem szG (n : Int) (l : List Int) (hl : l.length ≤ maxLen) : laws_szGraph.f n l 1048576 = some (if l.length ≤ 1048576 then 1048576 - (l.length : Int) else -1) := by
  unfold laws_szGraph.f
  rw [szS l hl]
  simp only [Option.bind_some]
  by_cases h : l.length ≤ 1048576
  · rw [if_pos h, if_neg (by omega)]
  · rw [if_neg h, if_pos (by decide)]
theorem toG (n : Int) (l : List Int) (hl : l.length ≤ 1048576) : Ev (fun m => laws_toGraph.f m n l) (n, l) := by
  unfold laws_toGraph.f
  exact Ev.bind (toS l (by omega)) (Ev.now _)
theorem eqG (n : Int) (l : List Int) (hl : l.length ≤ 1048576) : Ev (fun m => laws_eqGraph.f m n l n l) true := by
  unfold laws_eqGraph.f
  exact ev_pos rfl (Ev.bind (eqS_self l (by omega)) (ev_pos rfl (Ev.now _)))
theorem markG (n : Int) (l : List Int) (hl : l.length ≤ 1048576) : Ev (fun m => laws_markGraph.f m n l 1) (1 + (l.length : Int), marks 1 l.length) := by
  unfold laws_markGraph.f
  exact Ev.bind (markS l 1 (by omega) (by omega)) (Ev.now _)
end Go.Proofs.YtkmpkcofddpdgaaDoor.Q
namespace Go.Proofs.YtkmpkcofddpdgaaDoor.Pure
open Go Go.RowKit Go.Proofs.YtkmpkcofddpdgaaDoor.P Go.Proofs.YtkmpkcofddpdgaaDoorW.PrintWords Go.Proofs.YtkmpkcofddpdgaaDoorW.PrintLast Go.Proofs.YtkmpkcofddpdgaaDoor.Q
theorem both (n : Int) (l : List Int) : ∃ b d c, (b.length ≤ 62 ∧ d.length ≤ 62) ∧ Ev (fun k => spec_ArraysOf.f k n l) (b, d, c) ∧ Ev (fun k => impl_ArraysOf.f k n l) (b, d, c) := by
  unfold spec_ArraysOf.f impl_ArraysOf.f
  obtain ⟨c, hs, hi, hc⟩ := connCodes n l
  by_cases z : c = 0
  · obtain ⟨hg, hj⟩ := hc.1 z
    obtain ⟨p, hp, h1, h2⟩ := arrays_both hg hj
    by_cases y : p.2.2 = true
    · exact ⟨p.1, p.2.1, 0, hp, Ev.bind hs (ev_pos z (Ev.bind h1 (ev_pos y (Ev.now _)))), Ev.bind hi (ev_pos z (Ev.bind h2 (ev_pos y (Ev.now _))))⟩
    · exact ⟨[], [], 4, by simp, Ev.bind hs (ev_pos z (Ev.bind h1 (ev_neg y (Ev.now _)))), Ev.bind hi (ev_pos z (Ev.bind h2 (ev_neg y (Ev.now _))))⟩
  · exact ⟨[], [], c, by simp, Ev.bind hs (ev_neg z (Ev.now _)), Ev.bind hi (ev_neg z (Ev.now _))⟩
theorem FnExactArraysOf : ∀ (a0_0 : Int) (l0_1 : List Int), (Lit.int .i64 a0_0).wf = true → l0_1.length ≤ maxLen → (∀ x ∈ l0_1, (Lit.int .i64 x).wf = true) → ∃ k, laws_FnExactArraysOf.f k a0_0 l0_1 = some true := by
  intro n l _ hl _
  refine Ev.rounds ?_
  unfold laws_FnExactArraysOf.f
  rw [szG n l hl]
  simp only [Option.bind_some]
  by_cases hs : l.length ≤ 1048576
  · rw [if_pos hs]
    refine ev_neg (by omega) ?_
    obtain ⟨b, d, c, ⟨hb, hd⟩, h1, h2⟩ := both n l
    refine Ev.bind (toG n l hs) (Ev.bind h1 (Ev.bind (toG n l hs) (Ev.bind h2 (Ev.bind (eqS_self b (by omega)) (ev_pos rfl (Ev.bind (eqS_self d (by omega)) (ev_pos rfl ?_)))))))
    refine ev_k ?_
    simp only [laws_FnExactArraysOf.j0]
    refine ev_neg (by simp) (Ev.bind (toG n l hs) (Ev.bind (eqG n l hs) (ev_pos rfl (Ev.bind (markG n l hs) (ev_neg (by simp only []; omega) (Ev.bind (eqS_self b (by omega)) (ev_pos rfl (Ev.bind (eqS_self d (by omega)) (ev_pos rfl ?_)))))))))
    refine ev_k ?_
    simp only [laws_FnExactArraysOf.j1]
    have held : ∀ (j : Nat) (a : Int), 0 ≤ a → a ≤ 1000 → j ≤ 62 → Ev (fun m => laws_heldInt64S.f m (marks a j) a) (a + (j : Int)) := fun j a a0 a1 hj => heldS j a a0 (by omega)
    refine ev_neg (by simp) (Ev.bind (markS b 1 (by omega) (by omega)) (Ev.bind (markS d (1 + b.length) (by omega) (by omega)) (Ev.bind (held b.length 1 (by omega) (by omega) hb) (ev_neg (by omega) (Ev.bind (held d.length (1 + b.length) (by omega) (by omega) hd) (ev_neg (by omega) (ev_pos rfl ?_)))))))
    refine Ev.bind (toG n l hs) (Ev.bind h2 (Ev.bind (eqS_self b (by omega)) (ev_pos rfl (Ev.bind (eqS_self d (by omega)) (ev_pos rfl ?_)))))
    refine ev_k ?_
    simp only [laws_FnExactArraysOf.j2]
    exact ev_neg (by simp) (Ev.bind (held b.length 1 (by omega) (by omega) hb) (ev_neg (by omega) (Ev.bind (held d.length (1 + b.length) (by omega) (by omega) hd) (ev_neg (by omega) (ev_pos rfl (Ev.now _))))))
  · rw [if_neg hs]
    exact ev_pos (by decide) (Ev.now _)
end Go.Proofs.YtkmpkcofddpdgaaDoor.Pure
