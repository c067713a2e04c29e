/- The pure law and what it leans on, in one text (wip/bin/bundle). -/
import Derived.Test.YtkmpkcofddpdgaaDoorP123
import Derived.Test.YtkmpkcofddpdgaaDoorP125
import Derived.Test.YtkmpkcofddpdgaaDoorP126
import Derived.Test.YtkmpkcofddpdgaaDoorP60
import Derived.Test.YtkmpkcofddpdgaaDoorP53
import Derived.Test.YtkmpkcofddpdgaaDoorP50
import Derived.Test.YtkmpkcofddpdgaaDoorP51
import Derived.Test.YtkmpkcofddpdgaaDoorP52
import Derived.Test.YtkmpkcofddpdgaaDoorP58
import Derived.Test.YtkmpkcofddpdgaaDoorP57
import Derived.Test.YtkmpkcofddpdgaaDoorWA
import Derived.Test.YtkmpkcofddpdgaaDoorWBMore
import Derived.Laws.BitsLemmas
import Derived.Test.YtkmpkcofddpdgaaDoorP19
import Derived.Test.YtkmpkcofddpdgaaDoorP15
import Derived.Test.YtkmpkcofddpdgaaDoorP16
import Derived.Lib.TrailingZeros
import Derived.Test.YtkmpkcofddpdgaaDoorP4
import Derived.Test.YtkmpkcofddpdgaaDoorP5
import Derived.Test.YtkmpkcofddpdgaaDoorP13
import Derived.Test.YtkmpkcofddpdgaaDoorP20
import Derived.Test.YtkmpkcofddpdgaaDoorP14
import Derived.Test.YtkmpkcofddpdgaaDoorP6
import Derived.Test.YtkmpkcofddpdgaaDoorP7
import Derived.Test.YtkmpkcofddpdgaaDoorP48
import Derived.Test.YtkmpkcofddpdgaaDoorP55
import Derived.Test.YtkmpkcofddpdgaaDoorP56
import Derived.Test.YtkmpkcofddpdgaaDoorP49
import Derived.Test.YtkmpkcofddpdgaaDoorP12
import Derived.Test.YtkmpkcofddpdgaaDoorP2
import Derived.Test.YtkmpkcofddpdgaaDoorP3
import Derived.Test.YtkmpkcofddpdgaaDoorP59
import Derived.Test.YtkmpkcofddpdgaaDoorP124
import Derived.Test.YtkmpkcofddpdgaaDoorP1
import Derived.Test.YtkmpkcofddpdgaaDoorP11
import Derived.Test.YtkmpkcofddpdgaaDoorP23
import Derived.Test.YtkmpkcofddpdgaaDoorP24
import Derived.Test.YtkmpkcofddpdgaaDoorP26
import Derived.Test.YtkmpkcofddpdgaaDoorP10
import Derived.Test.YtkmpkcofddpdgaaDoorP22
import Derived.Test.YtkmpkcofddpdgaaDoorP25
namespace Go.Proofs.YtkmpkcofddpdgaaDoor.Q
open Go Go.RowKit Go.Proofs.YtkmpkcofddpdgaaDoorW.PrintWords Go.Proofs.YtkmpkcofddpdgaaDoorW.PrintMore
theorem ev_k {α : Type} {g : Nat → Option α} {r : α} (h : Ev (fun k => g (k + 1)) r) : Ev g r := Ev.step (fun _ => rfl) h
theorem ev_some {α : Type} {r s : α} (h : r = s) : Ev (fun _ => some r) s := h ▸ Ev.now r
theorem ev_pos {α : Type} {c : Prop} [Decidable c] {f g : Nat → Option α} {r : α} (h : c) (H : Ev f r) : Ev (fun k => if c then f k else g k) r :=
  Ev.congr (fun _ => if_pos h) H
theorem ev_neg {α : Type} {c : Prop} [Decidable c] {f g : Nat → Option α} {r : α} (h : ¬ c) (H : Ev g r) : Ev (fun k => if c then f k else g k) r :=
  Ev.congr (fun _ => if_neg h) H
theorem ev_ite {α : Type} {c : Prop} [Decidable c] {f g : Nat → Option α} {r : α} (h : c → Ev f r) (h' : ¬ c → Ev g r) : Ev (fun k => if c then f k else g k) r := by
  by_cases hc : c
  · exact ev_pos hc (h hc)
  · exact ev_neg hc (h' hc)
theorem ev_of {α : Type} {o : Option α} {r : α} (h : o = some r) : Ev (fun _ => o) r := ⟨0, fun _ _ => h⟩
theorem ev_bind0 {α β : Type} {o : Option α} {f : Nat → α → Option β} {a : α} {r : β} (h : o = some a) (H : Ev (fun n => f n a) r) : Ev (fun n => o.bind (f n)) r :=
  Ev.bind (ev_of h) H
theorem w64 {a : Int} (h0 : -9223372036854775808 ≤ a) (h1 : a < 9223372036854775808) : wrap64 a = a := by
  unfold wrap64
  omega
def Says (g : Nat → Option Bool) (P : Prop) : Prop := ∃ b : Bool, Ev g b ∧ (b = true ↔ P)
theorem says_iff {g : Nat → Option Bool} {P R : Prop} (h : P ↔ R) (H : Says g R) : Says g P := by
  obtain ⟨b, hb, e⟩ := H
  exact ⟨b, hb, e.trans h.symm⟩
theorem says_k {g : Nat → Option Bool} {P : Prop} (H : Says (fun k => g (k + 1)) P) : Says g P := by
  obtain ⟨b, hb, e⟩ := H
  exact ⟨b, ev_k hb, e⟩
theorem says_pos {c : Prop} [Decidable c] {f g : Nat → Option Bool} {P : Prop} (h : c) (H : Says f P) : Says (fun k => if c then f k else g k) P := by
  obtain ⟨b, hb, e⟩ := H
  exact ⟨b, ev_pos h hb, e⟩
theorem says_neg {c : Prop} [Decidable c] {f g : Nat → Option Bool} {P : Prop} (h : ¬ c) (H : Says g P) : Says (fun k => if c then f k else g k) P := by
  obtain ⟨b, hb, e⟩ := H
  exact ⟨b, ev_neg h hb, e⟩
theorem says_true {P : Prop} (h : P) : Says (fun _ => some true) P := ⟨true, Ev.now _, by simp [h]⟩
theorem says_false {P : Prop} (h : ¬ P) : Says (fun _ => some false) P := ⟨false, Ev.now _, by simp [h]⟩
theorem says_now (b : Bool) : Says (fun _ => some b) (b = true) := ⟨b, Ev.now _, Iff.rfl⟩
theorem says_bind {α : Type} {g : Nat → Option α} {f : Nat → α → Option Bool} {a : α} {P : Prop} (h : Ev g a) (H : Says (fun n => f n a) P) : Says (fun n => (g n).bind (f n)) P := by
  obtain ⟨b, hb, e⟩ := H
  exact ⟨b, Ev.bind h hb, e⟩
theorem Says.yes {g : Nat → Option Bool} {P : Prop} (H : Says g P) (h : P) : Ev g true := by
  obtain ⟨b, hb, e⟩ := H
  rw [e.2 h] at hb
  exact hb
theorem Says.no {g : Nat → Option Bool} {P : Prop} (H : Says g P) (h : ¬ P) : Ev g false := by
  obtain ⟨b, hb, e⟩ := H
  cases b with
  | true => exact absurd (e.1 rfl) h
  | false => exact hb
end Go.Proofs.YtkmpkcofddpdgaaDoor.Q
namespace Go.Proofs.YtkmpkcofddpdgaaDoor.Q
open Go Go.RowKit Go.Proofs.YtkmpkcofddpdgaaDoorW.PrintWords Go.Proofs.YtkmpkcofddpdgaaDoorW.PrintLast Go.Proofs.YtkmpkcofddpdgaaDoorW.PrintMore
def tb (x i : Int) : Bool := decide (x / 2 ^ i.toNat % 2 = 1)
theorem wu64 {a : Int} (h0 : 0 ≤ a) (h1 : a < 18446744073709551616) : IntKind.u64.wrap a = a := by
  simp [IntKind.wrap, IntKind.bits, IntKind.signed]
  omega
theorem w64' (a : Int) : IntKind.i64.wrap a = wrap64 a := by
  rw [IntKind.wrap_i64]
  unfold wrap64
  rfl
theorem and_one (a : Int) : bits .and .i64 a 1 = a % 2 := by
  have e : (BitVec.ofInt 64 a &&& BitVec.ofInt 64 1).toNat = (a % 2).toNat := by
    rw [BitVec.toNat_and, show (BitVec.ofInt 64 1).toNat = 1 from rfl, Nat.and_one_is_mod, BitVec.toNat_ofInt]
    omega
  show IntKind.i64.wrap (((BitVec.ofInt 64 a &&& BitVec.ofInt 64 1).toNat : Nat) : Int) = a % 2
  rw [e, w64']
  rw [w64] <;> omega
theorem shr_at {x i : Int} (i0 : 0 ≤ i) (i1 : i ≤ 63) : shr .i64 x i = x / 2 ^ i.toNat := by
  unfold shr
  rw [Nat.min_eq_left (by simp [IntKind.bits]; omega)]
theorem bit_at {x i : Int} (i0 : 0 ≤ i) (i1 : i ≤ 63) : bits .and .i64 (shr .i64 x i) 1 = if tb x i then 1 else 0 := by
  rw [and_one, shr_at i0 i1]
  unfold tb
  have := Int.emod_two_eq (x / 2 ^ i.toNat)
  rcases this with h | h <;> simp [h]
theorem bit_is {x i : Int} (i0 : 0 ≤ i) (i1 : i ≤ 63) : (bits .and .i64 (shr .i64 x i) 1 == 1) = tb x i := by
  rw [bit_at i0 i1]
  cases tb x i <;> rfl
theorem bit_eq {x y i j : Int} (i0 : 0 ≤ i) (i1 : i ≤ 63) (j0 : 0 ≤ j) (j1 : j ≤ 63) : bits .and .i64 (shr .i64 x i) 1 = bits .and .i64 (shr .i64 y j) 1 ↔ tb x i = tb y j := by
  rw [bit_at i0 i1, bit_at j0 j1]
  cases tb x i <;> cases tb y j <;> simp
theorem two_pow_le {n : Int} (h0 : 0 ≤ n) (h1 : n ≤ 62) : (1 : Int) ≤ 2 ^ n.toNat ∧ (2 : Int) ^ n.toNat ≤ 4611686018427387904 := by
  have e : ((2 : Int) ^ n.toNat) = ((2 ^ n.toNat : Nat) : Int) := by simp
  have a : 2 ^ n.toNat ≤ 2 ^ 62 := Nat.pow_le_pow_right (by decide) (by omega)
  have b : 1 ≤ 2 ^ n.toNat := Nat.one_le_two_pow
  rw [e]
  omega
theorem shl_one {n : Int} (h0 : 0 ≤ n) (h1 : n ≤ 62) : shl .i64 1 n = 2 ^ n.toNat := by
  have := two_pow_le h0 h1
  unfold shl
  rw [Nat.min_eq_left (by simp [IntKind.bits]; omega), Int.one_mul, w64', w64] <;> omega
theorem tb_nat (x i : Nat) : tb (x : Int) (i : Int) = x.testBit i := by
  unfold tb
  rw [Nat.testBit_eq_decide_div_mod_eq]
  have : ((x : Int) / 2 ^ i) % 2 = ((x / 2 ^ i % 2 : Nat) : Int) := by simp
  rw [Int.toNat_natCast, this]
  exact decide_eq_decide.2 (by omega)
theorem tb_toNat {x i : Int} (h0 : 0 ≤ x) (i0 : 0 ≤ i) : tb x i = x.toNat.testBit i.toNat := by
  rw [← tb_nat, Int.toNat_of_nonneg h0, Int.toNat_of_nonneg i0]
theorem tb_high {x i n : Int} (h0 : 0 ≤ x) (h1 : x < 2 ^ n.toNat) (n0 : 0 ≤ n) (hi : n ≤ i) : tb x i = false := by
  rw [tb_toNat h0 (by omega)]
  refine Nat.testBit_lt_two_pow ?_
  have e : ((2 : Int) ^ n.toNat) = ((2 ^ n.toNat : Nat) : Int) := by simp
  rw [e] at h1
  have : x.toNat < 2 ^ n.toNat := by omega
  exact Nat.lt_of_lt_of_le this (Nat.pow_le_pow_right (by decide) (by omega))
theorem tb_ext {x y n : Int} (x0 : 0 ≤ x) (x1 : x < 2 ^ n.toNat) (y0 : 0 ≤ y) (y1 : y < 2 ^ n.toNat) (n0 : 0 ≤ n) (h : ∀ i, 0 ≤ i → i < n → tb x i = tb y i) : x = y := by
  have : x.toNat = y.toNat := by
    refine Nat.eq_of_testBit_eq fun i => ?_
    by_cases hi : (i : Int) < n
    · have := h i (by omega) hi
      rwa [tb_toNat x0 (by omega), tb_toNat y0 (by omega), Int.toNat_natCast] at this
    · have a := tb_high (i := i) x0 x1 n0 (by omega)
      have b := tb_high (i := i) y0 y1 n0 (by omega)
      rw [tb_toNat x0 (by omega), Int.toNat_natCast] at a
      rw [tb_toNat y0 (by omega), Int.toNat_natCast] at b
      rw [a, b]
  omega
theorem and_nat (a b : Nat) (ha : a < 2 ^ 63) (hb : b < 2 ^ 63) : bits .and .i64 a b = ((a &&& b : Nat) : Int) :=
  (bits_nat .i64 63 (by decide) (fun n h0 h1 => by rw [w64', w64] <;> omega) a b ha hb).1
theorem or_nat (a b : Nat) (ha : a < 2 ^ 63) (hb : b < 2 ^ 63) : bits .or .i64 a b = ((a ||| b : Nat) : Int) :=
  (bits_nat .i64 63 (by decide) (fun n h0 h1 => by rw [w64', w64] <;> omega) a b ha hb).2
set_option linter.unusedVariables false in
theorem andNot_nat (a b : Nat) (ha : a < 2 ^ 63) (hb : b < 2 ^ 63) : ∃ c : Nat, bits .andNot .i64 a b = (c : Int) ∧ c < 2 ^ 63 ∧ ∀ i, c.testBit i = (a.testBit i && !b.testBit i) := by
  refine ⟨(BitVec.ofInt 64 a &&& ~~~ BitVec.ofInt 64 b).toNat, ?_, ?_, ?_⟩
  · show IntKind.i64.wrap (((BitVec.ofInt 64 a &&& ~~~ BitVec.ofInt 64 b).toNat : Nat) : Int) = _
    have : (BitVec.ofInt 64 a &&& ~~~ BitVec.ofInt 64 b).toNat < 2 ^ 63 := by
      simp only [BitVec.ofInt_natCast, BitVec.toNat_and, BitVec.toNat_ofNat]
      have : (a % 2 ^ 64 &&& (~~~ BitVec.ofNat 64 b).toNat) ≤ a % 2 ^ 64 := Nat.and_le_left
      have : a % 2 ^ 64 = a := Nat.mod_eq_of_lt (by omega)
      omega
    rw [w64', w64] <;> omega
  · simp only [BitVec.ofInt_natCast, BitVec.toNat_and, BitVec.toNat_ofNat]
    have : (a % 2 ^ 64 &&& (~~~ BitVec.ofNat 64 b).toNat) ≤ a % 2 ^ 64 := Nat.and_le_left
    have : a % 2 ^ 64 = a := Nat.mod_eq_of_lt (by omega)
    omega
  · intro i
    simp only [BitVec.ofInt_natCast]
    rw [BitVec.testBit_toNat, BitVec.getLsbD_and, BitVec.getLsbD_not, BitVec.getLsbD_ofNat, BitVec.getLsbD_ofNat]
    by_cases hi : i < 64
    · simp [hi]
    · simp [hi]
      intro h
      have := Nat.testBit_lt_two_pow (Nat.lt_of_lt_of_le ha (Nat.pow_le_pow_right (by decide) (show 63 ≤ i by omega)))
      simp [this] at h
end Go.Proofs.YtkmpkcofddpdgaaDoor.Q
namespace Go.Proofs.YtkmpkcofddpdgaaDoor.Q
open Go Go.RowKit Go.Proofs.YtkmpkcofddpdgaaDoorW.PrintWords
def rows (n : Int) (l : List Int) : Prop := 1 ≤ n ∧ n ≤ 62 ∧ (l.length : Int) = n ∧ ∀ v, 0 ≤ v → v < n → 0 ≤ rd l v ∧ rd l v < 2 ^ n.toNat
def isG (n : Int) (l : List Int) : Prop := rows n l ∧ (∀ v, 0 ≤ v → v < n → tb (rd l v) v = false) ∧ ∀ v w, 0 ≤ v → v < n → 0 ≤ w → w < n → tb (rd l v) w = tb (rd l w) v
theorem rows.nat {n : Int} {l : List Int} (h : rows n l) {v : Int} (h0 : 0 ≤ v) (h1 : v < n) : ∃ x : Nat, rd l v = (x : Int) ∧ x < 2 ^ n.toNat ∧ x < 2 ^ 62 := by
  obtain ⟨a, b, c, d⟩ := h
  obtain ⟨d0, d1⟩ := d v h0 h1
  have e : ((2 : Int) ^ n.toNat) = ((2 ^ n.toNat : Nat) : Int) := by simp
  have p : 2 ^ n.toNat ≤ 2 ^ 62 := Nat.pow_le_pow_right (by decide) (by omega)
  rw [e] at d1
  exact ⟨(rd l v).toNat, by omega, by omega, by omega⟩
end Go.Proofs.YtkmpkcofddpdgaaDoor.Q
namespace Go.Proofs.YtkmpkcofddpdgaaDoor.Q
open Go Go.RowKit Go.Proofs.YtkmpkcofddpdgaaDoorW.PrintWords Go.Proofs.YtkmpkcofddpdgaaDoorW.PrintMore
def Mx (n : Int) (l : List Int) (P : Int → Int → Prop) : Prop := (l.length : Int) = n ∧ ∀ v, 0 ≤ v → v < n → (0 ≤ rd l v ∧ rd l v < 2 ^ n.toNat) ∧ ∀ w, 0 ≤ w → w < n → (tb (rd l v) w = true ↔ P v w)
theorem Mx.imp {n : Int} {l : List Int} {P Q : Int → Int → Prop} (h : Mx n l P) (e : ∀ v w, 0 ≤ v → v < n → 0 ≤ w → w < n → (P v w ↔ Q v w)) : Mx n l Q :=
  ⟨h.1, fun v v0 v1 => ⟨(h.2 v v0 v1).1, fun w w0 w1 => ((h.2 v v0 v1).2 w w0 w1).trans (e v w v0 v1 w0 w1)⟩⟩
theorem rd_ext {a b : List Int} (hl : a.length = b.length) (h : ∀ v : Int, 0 ≤ v → v < a.length → rd a v = rd b v) : a = b := by
  refine List.ext_getElem hl fun i h1 h2 => ?_
  have := h i (by omega) (by omega)
  simpa [rd, List.getD_eq_getElem?_getD, h1, h2] using this
theorem Mx.eq {n : Int} {a b : List Int} {P : Int → Int → Prop} (ha : Mx n a P) (hb : Mx n b P) (n0 : 0 ≤ n) : a = b := by
  refine rd_ext (by have := ha.1; have := hb.1; omega) fun v v0 v1 => ?_
  have v1 : v < n := by have := ha.1; omega
  obtain ⟨⟨a0, a1⟩, a2⟩ := ha.2 v v0 v1
  obtain ⟨⟨b0, b1⟩, b2⟩ := hb.2 v v0 v1
  exact tb_ext a0 a1 b0 b1 n0 fun i i0 i1 => Bool.eq_iff_iff.2 ((a2 i i0 i1).trans (b2 i i0 i1).symm)
theorem Mx.zero (n : Int) (n0 : 0 ≤ n) : Mx n (List.replicate n.toNat 0) (fun _ _ => False) := by
  refine ⟨by simp; omega, fun v v0 v1 => ?_⟩
  have e : rd (List.replicate n.toNat 0) v = 0 := by
    have : v.toNat < n.toNat := by omega
    simp [rd, List.getD_eq_getElem?_getD, this]
  rw [e]
  have p : (0 : Int) < 2 ^ n.toNat := Int.pow_pos (by decide)
  refine ⟨⟨by omega, p⟩, fun w w0 w1 => ?_⟩
  simp [tb]
theorem Mx.rows {n : Int} {l : List Int} {P : Int → Int → Prop} (h : Mx n l P) (n1 : 1 ≤ n) (n2 : n ≤ 62) : rows n l := ⟨n1, n2, h.1, fun v v0 v1 => (h.2 v v0 v1).1⟩
theorem rd_set {l : List Int} {i j : Int} (x : Int) (i0 : 0 ≤ i) (i1 : i < l.length) (j0 : 0 ≤ j) : rd (l.set i.toNat x) j = if j = i then x else rd l j := by
  simp only [rd, List.getD_eq_getElem?_getD, List.getElem?_set]
  by_cases h : j = i
  · subst h
    rw [if_pos rfl, if_pos rfl, if_pos (by omega)]
    rfl
  · rw [if_neg h, if_neg (by omega)]
theorem or_one {n x j : Int} (n2 : n ≤ 62) (x0 : 0 ≤ x) (x1 : x < 2 ^ n.toNat) (j0 : 0 ≤ j) (j1 : j < n) : (0 ≤ bits .or .i64 x (shl .i64 1 j) ∧ bits .or .i64 x (shl .i64 1 j) < 2 ^ n.toNat) ∧ ∀ w, 0 ≤ w → (tb (bits .or .i64 x (shl .i64 1 j)) w = true ↔ tb x w = true ∨ w = j) := by
  have e : ((2 : Int) ^ n.toNat) = ((2 ^ n.toNat : Nat) : Int) := by simp
  have p : 2 ^ n.toNat ≤ 2 ^ 62 := Nat.pow_le_pow_right (by decide) (by omega)
  have q : 2 ^ j.toNat < 2 ^ n.toNat := Nat.pow_lt_pow_right (by decide) (by omega)
  rw [e] at x1 ⊢
  obtain ⟨y, rfl⟩ := Int.eq_ofNat_of_zero_le x0
  rw [shl_one j0 (by omega), show ((2 : Int) ^ j.toNat) = ((2 ^ j.toNat : Nat) : Int) by simp, or_nat y (2 ^ j.toNat) (by omega) (by omega)]
  refine ⟨⟨by omega, ?_⟩, fun w w0 => ?_⟩
  · have := Nat.or_lt_two_pow (show y < 2 ^ n.toNat by omega) q
    omega
  · obtain ⟨w, rfl⟩ := Int.eq_ofNat_of_zero_le w0
    rw [tb_nat, tb_nat, Nat.testBit_or, Nat.testBit_two_pow]
    simp only [Bool.or_eq_true, decide_eq_true_eq]
    refine or_congr Iff.rfl ?_
    omega
theorem Mx.or {n : Int} {l : List Int} {P : Int → Int → Prop} (h : Mx n l P) (n2 : n ≤ 62) {i j : Int} (i0 : 0 ≤ i) (i1 : i < n) (j0 : 0 ≤ j) (j1 : j < n) : Mx n (l.set i.toNat (bits .or .i64 (rd l i) (shl .i64 1 j))) (fun v w => P v w ∨ (v = i ∧ w = j)) := by
  refine ⟨by simpa using h.1, fun v v0 v1 => ?_⟩
  rw [rd_set _ i0 (by have := h.1; omega) v0]
  obtain ⟨⟨a0, a1⟩, a2⟩ := h.2 v v0 v1
  by_cases hv : v = i
  · rw [if_pos hv]
    subst hv
    obtain ⟨b, b2⟩ := or_one n2 a0 a1 j0 j1
    exact ⟨b, fun w w0 w1 => (b2 w w0).trans (or_congr (a2 w w0 w1) (by simp))⟩
  · rw [if_neg hv]
    exact ⟨⟨a0, a1⟩, fun w w0 w1 => (a2 w w0 w1).trans (by simp [hv])⟩
end Go.Proofs.YtkmpkcofddpdgaaDoor.Q
namespace Go.Proofs.YtkmpkcofddpdgaaDoor.Q
open Go Go.RowKit Go.Proofs.YtkmpkcofddpdgaaDoor.P Go.Proofs.YtkmpkcofddpdgaaDoorW.PrintWords Go.Proofs.YtkmpkcofddpdgaaDoorW.PrintMore
def IsMax (r : List Int) (m : Int) : Prop := (∀ j : Int, 0 ≤ j → j < r.length → rd r j ≤ m) ∧ ∃ j : Int, 0 ≤ j ∧ j < r.length ∧ m = rd r j
theorem IsMax.uniq {r : List Int} {a b : Int} (ha : IsMax r a) (hb : IsMax r b) : a = b := by
  obtain ⟨a1, i, i0, i1, ia⟩ := ha
  obtain ⟨b1, j, j0, j1, jb⟩ := hb
  have := a1 j j0 j1
  have := b1 i i0 i1
  omega
open Classical in
noncomputable def top (r : List Int) : Int := if h : ∃ m, IsMax r m then h.choose else 0
theorem top_eq {r : List Int} {m : Int} (h : IsMax r m) : top r = m := by
  have hex : ∃ m, IsMax r m := ⟨m, h⟩
  unfold top
  rw [dif_pos hex]
  exact hex.choose_spec.uniq h
theorem r_max_l0 (l : List Int) (hl : l.length ≤ 1152921504606846976) (d : Nat) : ∀ (m i : Int), 0 ≤ i → i ≤ l.length → l.length - i = d → ∃ r, Ev (fun k => slices_Max_int64_int64.l0 k l m i) r ∧ m ≤ r ∧ (∀ j : Int, i ≤ j → j < l.length → rd l j ≤ r) ∧ (r = m ∨ ∃ j : Int, i ≤ j ∧ j < l.length ∧ r = rd l j) := by
  induction d with
  | zero =>
    intro m i i0 i1 hd
    refine ⟨m, ev_k ?_, by omega, fun j _ _ => by omega, .inl rfl⟩
    simp only [slices_Max_int64_int64.l0]
    exact ev_neg (by omega) (Ev.now _)
  | succ d ih =>
    intro m i i0 i1 hd
    obtain ⟨r, hr, r1, r2, r3⟩ := ih (mx m (rd l i)) (i + 1) (by omega) (by omega) (by omega)
    have e : m ≤ mx m (rd l i) ∧ rd l i ≤ mx m (rd l i) ∧ (mx m (rd l i) = m ∨ mx m (rd l i) = rd l i) := by
      unfold mx
      split <;> omega
    refine ⟨r, ev_k ?_, by omega, fun j j0 j1 => if h : j = i then by rw [h]; omega else r2 j (by omega) j1, ?_⟩
    · simp only [slices_Max_int64_int64.l0]
      rw [w64 (a := i + 1) (by omega) (by omega)]
      exact ev_pos (by omega) (ev_pos i0 hr)
    · rcases r3 with h | ⟨j, j0, j1, h⟩
      · rcases e.2.2 with e | e
        · exact .inl (h.trans e)
        · exact .inr ⟨i, by omega, by omega, h.trans e⟩
      · exact .inr ⟨j, by omega, j1, h⟩
theorem r_max (l : List Int) (hl : l.length ≤ 1152921504606846976) (h0 : 0 < l.length) : ∃ r, Ev (fun k => slices_Max_int64_int64.f k l) r ∧ IsMax l r := by
  obtain ⟨r, hr, r1, r2, r3⟩ := r_max_l0 l hl (l.length - 1) (rd l 0) 1 (by omega) (by omega) (by omega)
  refine ⟨r, ?_, fun j j0 j1 => if h : j = 0 then by rw [h]; exact r1 else r2 j (by omega) j1, ?_⟩
  · unfold slices_Max_int64_int64.f
    exact ev_neg (by omega) (ev_pos (by omega) hr)
  · rcases r3 with h | ⟨j, j0, j1, h⟩
    · exact ⟨0, by omega, by omega, h⟩
    · exact ⟨j, by omega, j1, h⟩
end Go.Proofs.YtkmpkcofddpdgaaDoor.Q
namespace Go.Proofs.YtkmpkcofddpdgaaDoor.Q
open Go Go.RowKit Go.Proofs.YtkmpkcofddpdgaaDoorW.PrintWords Go.Proofs.YtkmpkcofddpdgaaDoorW.PrintMore
def Wk (n : Int) (l : List Int) (s : Int) : Nat → Int → Prop
  | 0, u => u = s
  | k + 1, u => (0 ≤ u ∧ u < n) ∧ ∃ w, (0 ≤ w ∧ w < n) ∧ Wk n l s k w ∧ tb (rd l w) u = true
def Ds (n : Int) (l : List Int) (s : Int) (d : Nat) (u : Int) : Prop := Wk n l s d u ∧ ∀ j, j < d → ¬ Wk n l s j u
theorem Ds.uniq {n : Int} {l : List Int} {s u : Int} {d e : Nat} (h : Ds n l s d u) (g : Ds n l s e u) : d = e := by
  rcases Nat.lt_trichotomy d e with z | z | z
  · exact absurd h.1 (g.2 d z)
  · exact z
  · exact absurd g.1 (h.2 e z)
theorem Wk.range {n : Int} {l : List Int} {s : Int} (s0 : 0 ≤ s) (s1 : s < n) {k : Nat} {u : Int} (h : Wk n l s k u) : 0 ≤ u ∧ u < n := by
  cases k with
  | zero => cases h; exact ⟨s0, s1⟩
  | succ k => exact h.1
theorem Wk.least {n : Int} {l : List Int} {s u : Int} (k : Nat) (h : Wk n l s k u) : ∃ d, d ≤ k ∧ Ds n l s d u := by
  induction k using Nat.strongRecOn with
  | _ k ih =>
    by_cases hj : ∃ j, j < k ∧ Wk n l s j u
    · obtain ⟨j, hj, hw⟩ := hj
      obtain ⟨d, hd, h2⟩ := ih j hj hw
      exact ⟨d, by omega, h2⟩
    · exact ⟨k, Nat.le_refl _, h, fun j hj' hw => hj ⟨j, hj', hw⟩⟩
theorem Ds.ahead {n : Int} {l : List Int} {s u : Int} {d : Nat} (h : Ds n l s (d + 1) u) : ∃ w, (0 ≤ w ∧ w < n) ∧ Ds n l s d w ∧ tb (rd l w) u = true := by
  obtain ⟨⟨hu, w, hw, hk, ht⟩, hm⟩ := h
  refine ⟨w, hw, ⟨hk, fun j hj hwj => hm (j + 1) (by omega) ⟨hu, w, hw, hwj, ht⟩⟩, ht⟩
theorem Ds.stops {n : Int} {l : List Int} {s : Int} {d : Nat} (h : ∀ w, ¬ Ds n l s d w) : ∀ e, d ≤ e → ∀ u, ¬ Ds n l s e u := by
  intro e he
  induction e with
  | zero =>
    obtain rfl : d = 0 := by omega
    exact h
  | succ e ih =>
    by_cases z : d = e + 1
    · subst z
      exact h
    · intro u hu
      obtain ⟨w, _, hw, _⟩ := hu.ahead
      exact ih (by omega) w hw
theorem Ds.next {n : Int} {l : List Int} {s u : Int} {d : Nat} (hu : 0 ≤ u ∧ u < n) : Ds n l s (d + 1) u ↔ (∃ w, (0 ≤ w ∧ w < n) ∧ Ds n l s d w ∧ tb (rd l w) u = true) ∧ ¬ ∃ j, j ≤ d ∧ Wk n l s j u := by
  constructor
  · intro h
    exact ⟨h.ahead, fun ⟨j, hj, hw⟩ => h.2 j (by omega) hw⟩
  · rintro ⟨⟨w, hw, hd, ht⟩, hno⟩
    exact ⟨⟨hu, w, hw, hd.1, ht⟩, fun j hj hwj => hno ⟨j, by omega, hwj⟩⟩
def DistL (n : Int) (l : List Int) (s : Int) (ds : List Int) : Prop := (ds.length : Int) = n ∧ ∀ u, 0 ≤ u → u < n → (rd ds u = -1 ∧ ∀ j, ¬ Wk n l s j u) ∨ ∃ d : Nat, rd ds u = (d : Int) ∧ Ds n l s d u
theorem DistL.eq {n : Int} {l : List Int} {s : Int} {a b : List Int} (ha : DistL n l s a) (hb : DistL n l s b) : a = b := by
  refine rd_ext (by have := ha.1; have := hb.1; omega) fun v v0 v1 => ?_
  have v1 : v < n := by have := ha.1; omega
  rcases ha.2 v v0 v1 with ⟨e, h⟩ | ⟨d, e, h⟩ <;> rcases hb.2 v v0 v1 with ⟨f, g⟩ | ⟨c, f, g⟩
  · rw [e, f]
  · exact absurd g.1 (h c)
  · exact absurd h.1 (g d)
  · rw [e, f, h.uniq g]
theorem Ds.zero (n : Int) (l : List Int) (s u : Int) : Ds n l s 0 u ↔ u = s := ⟨fun h => h.1, fun h => ⟨h, fun j hj => by omega⟩⟩
theorem Wk.front {n : Int} {l : List Int} {s w : Int} (hs : 0 ≤ s ∧ s < n) (hw : 0 ≤ w ∧ w < n) (ht : tb (rd l s) w = true) : ∀ (k : Nat) (u : Int), Wk n l w k u → Wk n l s (k + 1) u := by
  intro k
  induction k with
  | zero =>
    intro u hu
    cases hu
    exact ⟨hw, s, hs, rfl, ht⟩
  | succ k ih =>
    rintro u ⟨hu, x, hx, hk, hx2⟩
    exact ⟨hu, x, hx, ih x hk, hx2⟩
theorem Wk.back {n : Int} {l : List Int} (hg : ∀ v w, 0 ≤ v → v < n → 0 ≤ w → w < n → tb (rd l v) w = tb (rd l w) v) {s : Int} : ∀ (k : Nat) (u : Int), Wk n l s k u → Wk n l u k s := by
  intro k
  induction k with
  | zero => intro u hu; exact hu.symm
  | succ k ih =>
    rintro u ⟨hu, w, hw, hk, ht⟩
    exact Wk.front hu hw (by rw [hg u w hu.1 hu.2 hw.1 hw.2]; exact ht) k s (ih w hk)
theorem Ds.back {n : Int} {l : List Int} (hg : ∀ v w, 0 ≤ v → v < n → 0 ≤ w → w < n → tb (rd l v) w = tb (rd l w) v) {s u : Int} {d : Nat} (h : Ds n l s d u) : Ds n l u d s :=
  ⟨Wk.back hg d u h.1, fun j hj hw => h.2 j hj (Wk.back hg j s hw)⟩
structure Dist (n : Int) (l : List Int) (s : Int) (r : List Int) : Prop where
  len : (r.length : Int) = n
  src : ∀ u, 0 ≤ u → u < n → (rd r u = 0 ↔ u = s)
  next : ∀ (d u : Int), 0 ≤ d → 0 ≤ u → u < n → (rd r u = d + 1 ↔ (∃ w, (0 ≤ w ∧ w < n) ∧ rd r w = d ∧ tb (rd l w) u = true) ∧ ¬ (0 ≤ rd r u ∧ rd r u ≤ d))
  low : ∀ u, 0 ≤ u → u < n → -1 ≤ rd r u
  stops : ∀ d, 0 ≤ d → (∀ u, 0 ≤ u → u < n → rd r u ≠ d) → ∀ u, 0 ≤ u → u < n → rd r u < d
theorem DistL.ds {n : Int} {l : List Int} {s : Int} {r : List Int} (h : DistL n l s r) {u : Int} (u0 : 0 ≤ u) (u1 : u < n) (d : Nat) : rd r u = (d : Int) ↔ Ds n l s d u := by
  rcases h.2 u u0 u1 with ⟨e, g⟩ | ⟨c, e, g⟩
  · exact ⟨fun z => by omega, fun z => absurd z.1 (g d)⟩
  · constructor
    · intro z
      have : c = d := by omega
      exact this ▸ g
    · intro z
      rw [e, g.uniq z]
theorem DistL.met {n : Int} {l : List Int} {s : Int} {r : List Int} (h : DistL n l s r) {u : Int} (u0 : 0 ≤ u) (u1 : u < n) (d : Nat) : (0 ≤ rd r u ∧ rd r u ≤ (d : Int)) ↔ ∃ j, j ≤ d ∧ Wk n l s j u := by
  constructor
  · intro z
    have := (h.ds u0 u1 (rd r u).toNat).1 (by omega)
    exact ⟨(rd r u).toNat, by omega, this.1⟩
  · rintro ⟨j, hj, hw⟩
    obtain ⟨c, hc, hd⟩ := hw.least
    have := (h.ds u0 u1 c).2 hd
    omega
theorem DistL.dist {n : Int} {l : List Int} {s : Int} {r : List Int} (h : DistL n l s r) : Dist n l s r where
  len := h.1
  src := fun u u0 u1 => (h.ds u0 u1 0).trans (Ds.zero n l s u)
  next := fun d u d0 u0 u1 => by
    obtain ⟨d, rfl⟩ := Int.eq_ofNat_of_zero_le d0
    have a := h.ds u0 u1 (d + 1)
    rw [show ((d + 1 : Nat) : Int) = (d : Int) + 1 by omega] at a
    rw [a, Ds.next ⟨u0, u1⟩, h.met u0 u1]
    refine and_congr ⟨?_, ?_⟩ Iff.rfl
    · rintro ⟨w, hw, hd, ht⟩
      exact ⟨w, hw, (h.ds hw.1 hw.2 d).2 hd, ht⟩
    · rintro ⟨w, hw, hd, ht⟩
      exact ⟨w, hw, (h.ds hw.1 hw.2 d).1 hd, ht⟩
  low := fun u u0 u1 => by
    rcases h.2 u u0 u1 with ⟨e, _⟩ | ⟨c, e, _⟩ <;> omega
  stops := fun d d0 hd u u0 u1 => by
    obtain ⟨d, rfl⟩ := Int.eq_ofNat_of_zero_le d0
    rcases h.2 u u0 u1 with ⟨e, _⟩ | ⟨c, e, g⟩
    · omega
    · by_cases z : c < d
      · omega
      · refine absurd g ?_
        refine Ds.stops (d := d) (fun w hw => ?_) c (by omega) u
        have hr : 0 ≤ w ∧ w < n := by
          cases d with
          | zero =>
            have hs : w = s := hw.1
            by_cases hc : 0 ≤ s ∧ s < n
            · rw [hs]; exact hc
            · exfalso
              have key : ∀ (c : Nat) (u : Int), 0 ≤ u → u < n → ¬ Ds n l s c u := by
                intro c
                induction c with
                | zero => intro u u0 u1 z; have : u = s := z.1; exact hc ⟨by omega, by omega⟩
                | succ c ih => intro u u0 u1 z; obtain ⟨w, hw, hd, _⟩ := z.ahead; exact ih w hw.1 hw.2 hd
              exact key c u u0 u1 g
          | succ d => exact hw.1.1
        exact hd w hr.1 hr.2 ((h.ds hr.1 hr.2 d).2 hw)
open Classical in
theorem distL_exists (n : Int) (l : List Int) (s : Int) (n0 : 0 ≤ n) : ∃ r, DistL n l s r := by
  let f : Nat → Int := fun u => if h : ∃ d : Nat, Ds n l s d (u : Int) then (h.choose : Int) else -1
  refine ⟨(List.range n.toNat).map f, by simp; omega, fun u u0 u1 => ?_⟩
  have e : rd ((List.range n.toNat).map f) u = f u.toNat := by
    have : u.toNat < n.toNat := by omega
    simp [rd, List.getD_eq_getElem?_getD, this]
  rw [e]
  have hu : ((u.toNat : Nat) : Int) = u := Int.toNat_of_nonneg u0
  show _ ∨ _
  by_cases h : ∃ d : Nat, Ds n l s d ((u.toNat : Nat) : Int)
  · refine .inr ⟨h.choose, dif_pos h, ?_⟩
    have go : ∀ (c : Nat) (z : Int), z = u → Ds n l s c z → Ds n l s c u := fun c z e h => e ▸ h
    exact go _ _ hu h.choose_spec
  · refine .inl ⟨dif_neg h, fun j hj => h ?_⟩
    obtain ⟨d, _, hd⟩ := hj.least
    exact ⟨d, by rwa [hu]⟩
theorem length_of_all (K : Nat) : ∀ xs : List Nat, (∀ d, d < K → d ∈ xs) → K ≤ xs.length := by
  induction K with
  | zero => intro xs _; omega
  | succ K ih =>
    intro xs h
    have hm := h K (by omega)
    have := ih (xs.erase K) fun d hd => (List.mem_erase_of_ne (by omega)).2 (h d (by omega))
    have := List.length_erase_of_mem hm
    have := List.length_pos_of_mem hm
    omega
theorem Dist.level {n : Int} {l : List Int} {s : Int} {r : List Int} (h : Dist n l s r) (D : Nat) : ∀ u, 0 ≤ u → u < n → rd r u = (D : Int) → ∀ d, d ≤ D → ∃ w, (0 ≤ w ∧ w < n) ∧ rd r w = (d : Int) := by
  induction D with
  | zero => intro u u0 u1 hu d hd; exact ⟨u, ⟨u0, u1⟩, by rw [hu]; omega⟩
  | succ D ih =>
    intro u u0 u1 hu d hd
    by_cases e : d = D + 1
    · exact ⟨u, ⟨u0, u1⟩, by rw [hu, e]⟩
    · obtain ⟨⟨w, hw, hd', _⟩, _⟩ := (h.next D u (by omega) u0 u1).1 (by rw [hu]; omega)
      exact ih w hw.1 hw.2 hd' d (by omega)
theorem Dist.small {n : Int} {l : List Int} {s : Int} {r : List Int} (h : Dist n l s r) : ∀ u, 0 ≤ u → u < n → rd r u < n := by
  intro u u0 u1
  by_cases z : rd r u < 0
  · omega
  · have lv := h.level (rd r u).toNat u u0 u1 (by omega)
    have := length_of_all ((rd r u).toNat + 1) (r.map Int.toNat) fun d hd => by
      obtain ⟨w, hw, e⟩ := lv d (by omega)
      have hl := h.len
      have hwl : w.toNat < r.length := by omega
      have e2 : rd r w = r[w.toNat] := by simp [rd, List.getD_eq_getElem?_getD, List.getElem?_eq_getElem hwl]
      exact List.mem_map.2 ⟨r[w.toNat], List.getElem_mem _, by rw [← e2, e]; omega⟩
    rw [List.length_map] at this
    have := h.len
    omega
end Go.Proofs.YtkmpkcofddpdgaaDoor.Q
namespace Go.Proofs.YtkmpkcofddpdgaaDoor.Q
open Go Go.RowKit Go.Proofs.YtkmpkcofddpdgaaDoorW.PrintWords Go.Proofs.YtkmpkcofddpdgaaDoorW.PrintMore
def Rw (n x : Int) : Prop := 0 ≤ x ∧ x < 2 ^ n.toNat
theorem Rw.nat {n x : Int} (n2 : n ≤ 62) (h : Rw n x) : ∃ y : Nat, x = (y : Int) ∧ y < 2 ^ n.toNat ∧ y < 2 ^ 62 := by
  obtain ⟨h0, h1⟩ := h
  have e : ((2 : Int) ^ n.toNat) = ((2 ^ n.toNat : Nat) : Int) := by simp
  have p : 2 ^ n.toNat ≤ 2 ^ 62 := Nat.pow_le_pow_right (by decide) (by omega)
  rw [e] at h1
  exact ⟨x.toNat, by omega, by omega, by omega⟩
theorem Rw.of {n : Int} {y : Nat} (h : y < 2 ^ n.toNat) : Rw n (y : Int) := by
  have e : ((2 : Int) ^ n.toNat) = ((2 ^ n.toNat : Nat) : Int) := by simp
  exact ⟨by omega, by rw [e]; omega⟩
theorem or_rw {n x y : Int} (n2 : n ≤ 62) (hx : Rw n x) (hy : Rw n y) : Rw n (bits .or .i64 x y) ∧ ∀ w, 0 ≤ w → (tb (bits .or .i64 x y) w = true ↔ tb x w = true ∨ tb y w = true) := by
  obtain ⟨a, rfl, a1, a2⟩ := hx.nat n2
  obtain ⟨b, rfl, b1, b2⟩ := hy.nat n2
  rw [or_nat a b (by omega) (by omega)]
  refine ⟨Rw.of (Nat.or_lt_two_pow a1 b1), fun w w0 => ?_⟩
  obtain ⟨w, rfl⟩ := Int.eq_ofNat_of_zero_le w0
  rw [tb_nat, tb_nat, tb_nat, Nat.testBit_or]
  simp
theorem andNot_rw {n x y : Int} (n2 : n ≤ 62) (hx : Rw n x) (hy : Rw n y) : Rw n (bits .andNot .i64 x y) ∧ ∀ w, 0 ≤ w → (tb (bits .andNot .i64 x y) w = true ↔ tb x w = true ∧ ¬ tb y w = true) := by
  obtain ⟨a, rfl, a1, a2⟩ := hx.nat n2
  obtain ⟨b, rfl, b1, b2⟩ := hy.nat n2
  obtain ⟨c, e, _, hc⟩ := andNot_nat a b (by omega) (by omega)
  rw [e]
  have c1 : c < 2 ^ n.toNat := by
    refine Nat.lt_pow_two_of_testBit _ fun i hi => ?_
    rw [hc, Nat.testBit_lt_two_pow (Nat.lt_of_lt_of_le a1 (Nat.pow_le_pow_right (by decide) hi))]
    rfl
  refine ⟨Rw.of c1, fun w w0 => ?_⟩
  obtain ⟨w, rfl⟩ := Int.eq_ofNat_of_zero_le w0
  rw [tb_nat, tb_nat, tb_nat, hc]
  simp
theorem one_rw {n j : Int} (n2 : n ≤ 62) (j0 : 0 ≤ j) (j1 : j < n) : Rw n (shl .i64 1 j) ∧ ∀ w, 0 ≤ w → (tb (shl .i64 1 j) w = true ↔ w = j) := by
  rw [shl_one j0 (by omega), show ((2 : Int) ^ j.toNat) = ((2 ^ j.toNat : Nat) : Int) by simp]
  refine ⟨Rw.of (Nat.pow_lt_pow_right (by decide) (by omega)), fun w w0 => ?_⟩
  obtain ⟨w, rfl⟩ := Int.eq_ofNat_of_zero_le w0
  rw [tb_nat, Nat.testBit_two_pow]
  simp
  omega
theorem zero_rw (n : Int) : Rw n 0 ∧ ∀ w, ¬ tb 0 w = true := by
  have p : (0 : Int) < 2 ^ n.toNat := Int.pow_pos (by decide)
  exact ⟨⟨by omega, p⟩, fun w => by simp [tb]⟩
theorem Rw.eq_zero {n x : Int} (n0 : 0 ≤ n) (hx : Rw n x) : x = 0 ↔ ∀ w, 0 ≤ w → w < n → ¬ tb x w = true := by
  constructor
  · rintro rfl w _ _
    exact (zero_rw n).2 w
  · intro h
    exact tb_ext hx.1 hx.2 (zero_rw n).1.1 (zero_rw n).1.2 n0 fun i i0 i1 => by
      have a := h i i0 i1
      have b := (zero_rw n).2 i
      simp at a b
      rw [a, b]
end Go.Proofs.YtkmpkcofddpdgaaDoor.Q
namespace Go.Proofs.YtkmpkcofddpdgaaDoor.Q
open Go Go.RowKit Go.Proofs.YtkmpkcofddpdgaaDoor.P Go.Proofs.YtkmpkcofddpdgaaDoorW.PrintWords Go.Proofs.YtkmpkcofddpdgaaDoorW.PrintMore
def onesFrom (x : Nat) : Nat → Nat → List Int
  | 0, _ => []
  | d + 1, m => if x.testBit m then (m : Int) :: onesFrom x d (m + 1) else onesFrom x d (m + 1)
theorem onesFrom_zero (d : Nat) : ∀ m, onesFrom 0 d m = [] := by
  induction d with
  | zero => intro m; rfl
  | succ d ih => intro m; simp [onesFrom, ih]
theorem onesFrom_congr (x y : Nat) (d : Nat) : ∀ m, (∀ i, m ≤ i → x.testBit i = y.testBit i) → onesFrom x d m = onesFrom y d m := by
  induction d with
  | zero => intro m _; rfl
  | succ d ih =>
    intro m h
    simp only [onesFrom]
    rw [h m (Nat.le_refl _), ih (m + 1) fun i hi => h i (by omega)]
theorem ctz_at {x m : Nat} (hx : x < 2 ^ 64) (hb : x.testBit m = true) (hl : ∀ i, i < m → x.testBit i = false) : Lib.ctz 64 x = m ∧ ∃ q, x = 2 ^ m * (2 * q + 1) := by
  have h0 : x ≠ 0 := by rintro rfl; simp at hb
  obtain ⟨q, e, _⟩ := Lib.ctzFrom_spec 64 x (by omega) hx
  have ec : Lib.ctz 64 x = Lib.ctzFrom 64 x := by simp [Lib.ctz, h0]
  have ht : ∀ i, x.testBit i = (decide (i ≥ Lib.ctzFrom 64 x) && (2 * q + 1).testBit (i - Lib.ctzFrom 64 x)) := fun i => by rw [← Nat.testBit_two_pow_mul, ← e]
  generalize Lib.ctzFrom 64 x = c at *
  have hc : c = m := by
    rcases Nat.lt_trichotomy c m with h | h | h
    · have a := hl c h
      rw [ht c] at a
      simp at a
    · exact h
    · rw [ht m] at hb
      have : ¬ m ≥ c := by omega
      simp [this] at hb
  subst hc
  exact ⟨ec, q, e⟩
theorem and_pred {m q : Nat} : (2 ^ m * (2 * q + 1)) &&& (2 ^ m * (2 * q + 1) - 1) = 2 ^ m * (2 * q) := by
  have p := Nat.two_pow_pos m
  have e : 2 ^ m * (2 * q + 1) - 1 = 2 ^ m * (2 * q) + (2 ^ m - 1) := by rw [Nat.mul_add]; omega
  rw [e]
  refine Nat.eq_of_testBit_eq fun i => ?_
  rw [Nat.testBit_and, Nat.testBit_two_pow_mul, Nat.testBit_two_pow_mul_add _ (by omega), Nat.testBit_two_pow_mul]
  by_cases h : i < m
  · have : ¬ i ≥ m := by omega
    simp [this]
  · have : i ≥ m := by omega
    simp only [this, decide_true, Bool.true_and, h, if_false]
    cases i - m with
    | zero => simp
    | succ j => simp [Nat.testBit_succ]; rw [show (2 * q + 1) / 2 = q by omega]; simp
theorem pred_bit {m q i : Nat} (h : m < i) : (2 ^ m * (2 * q)).testBit i = (2 ^ m * (2 * q + 1)).testBit i := by
  rw [Nat.testBit_two_pow_mul, Nat.testBit_two_pow_mul]
  obtain ⟨j, hj⟩ : ∃ j, i - m = j + 1 := ⟨i - m - 1, by omega⟩
  rw [hj, Nat.testBit_succ, Nat.testBit_succ, show (2 * q + 1) / 2 = 2 * q / 2 by omega]
theorem pred_low {m q i : Nat} (h : i < m + 1) : (2 ^ m * (2 * q)).testBit i = false := by
  rw [Nat.testBit_two_pow_mul]
  by_cases e : i = m
  · subst e
    simp
  · have : ¬ i ≥ m := by omega
    simp [this]
theorem i_list_l0 (d : Nat) : ∀ (m x : Nat) (acc : List Int), d + m = 62 → x < 2 ^ 62 → (∀ i, i < m → x.testBit i = false) → acc.length ≤ m → Ev (fun k => impl_list.l0 k (x : Int) acc) (acc ++ onesFrom x d m) := by
  have done : ∀ d m (acc : List Int), Ev (fun k => impl_list.l0 k ((0 : Nat) : Int) acc) (acc ++ onesFrom 0 d m) := by
    intro d m acc
    rw [onesFrom_zero, List.append_nil]
    refine ev_k ?_
    simp only [impl_list.l0]
    exact ev_pos rfl (Ev.now _)
  induction d with
  | zero =>
    intro m x acc hd hx hl ha
    have : x = 0 := by
      refine Nat.eq_of_testBit_eq fun i => ?_
      rw [Nat.zero_testBit]
      by_cases hi : i < m
      · exact hl i hi
      · exact Nat.testBit_lt_two_pow (Nat.lt_of_lt_of_le hx (Nat.pow_le_pow_right (by decide) (by omega)))
    subst this
    exact done 0 m acc
  | succ d ih =>
    intro m x acc hd hx hl ha
    by_cases hb : x.testBit m = true
    · obtain ⟨hc, q, e⟩ := ctz_at (Nat.lt_trans hx (by decide)) hb hl
      have x0 : x ≠ 0 := by rintro rfl; simp at hb
      have hq : 2 ^ m * (2 * q) < 2 ^ 62 := Nat.lt_of_le_of_lt (Nat.mul_le_mul_left _ (by omega)) (e ▸ hx)
      have := ih (m + 1) (2 ^ m * (2 * q)) (acc ++ [(m : Int)]) (by omega) hq (fun i hi => pred_low hi) (by simp; omega)
      have e2 : acc ++ onesFrom x (d + 1) m = acc ++ [(m : Int)] ++ onesFrom (2 ^ m * (2 * q)) d (m + 1) := by
        simp only [onesFrom, hb, if_true]
        rw [onesFrom_congr x (2 ^ m * (2 * q)) d (m + 1) fun i hi => by rw [pred_bit (by omega), ← e]]
        simp
      rw [e2]
      refine ev_k ?_
      simp only [impl_list.l0]
      refine ev_neg (by omega) ?_
      rw [wu64 (a := (x : Int)) (by omega) (by omega), w64 (a := (x : Int) - 1) (by omega) (by omega), show (x : Int) - 1 = ((x - 1 : Nat) : Int) by omega, and_nat x (x - 1) (by omega) (by omega)]
      have ex : x &&& (x - 1) = 2 ^ m * (2 * q) := by rw [e]; exact and_pred
      rw [ex]
      refine ev_bind0 (a := (m : Int)) ?_ (ev_pos (by omega) this)
      unfold bits_TrailingZeros64.f
      rw [if_pos (by omega), if_pos (by omega), Int.toNat_natCast, hc]
    · have := ih (m + 1) x acc (by omega) hx (fun i hi => if h : i = m then by rw [h]; simpa using hb else hl i (by omega)) (by omega)
      have e : onesFrom x (d + 1) m = onesFrom x d (m + 1) := by simp [onesFrom, hb]
      rwa [e]
def ones (x : Int) : List Int := onesFrom x.toNat 62 0
theorem i_list {x : Int} (h0 : 0 ≤ x) (h1 : x < 4611686018427387904) : Ev (fun k => impl_list.f k x) (ones x) := by
  obtain ⟨y, rfl⟩ := Int.eq_ofNat_of_zero_le h0
  unfold impl_list.f ones
  rw [Int.toNat_natCast]
  have := i_list_l0 62 0 y [] (by omega) (by omega) (fun i hi => by omega) (by simp)
  simpa using this
theorem onesFrom_mem (x : Nat) (d : Nat) : ∀ m (v : Int), v ∈ onesFrom x d m ↔ ∃ i : Nat, v = (i : Int) ∧ m ≤ i ∧ i < m + d ∧ x.testBit i = true := by
  induction d with
  | zero => intro m v; simp [onesFrom]; intro i _ _; omega
  | succ d ih =>
    intro m v
    simp only [onesFrom]
    have s : (∃ i : Nat, v = (i : Int) ∧ m ≤ i ∧ i < m + (d + 1) ∧ x.testBit i = true) ↔ (v = (m : Int) ∧ x.testBit m = true) ∨ ∃ i : Nat, v = (i : Int) ∧ m + 1 ≤ i ∧ i < m + 1 + d ∧ x.testBit i = true := by
      constructor
      · rintro ⟨i, rfl, h1, h2, h3⟩
        by_cases e : i = m
        · subst e
          exact .inl ⟨rfl, h3⟩
        · exact .inr ⟨i, rfl, by omega, by omega, h3⟩
      · rintro (⟨rfl, h⟩ | ⟨i, rfl, h1, h2, h3⟩)
        · exact ⟨m, rfl, by omega, by omega, h⟩
        · exact ⟨i, rfl, by omega, by omega, h3⟩
    rw [s, ← ih]
    by_cases h : x.testBit m = true
    · rw [if_pos h]
      simp [h]
    · rw [if_neg h]
      simp [h]
theorem ones_mem {n x : Int} (n0 : 0 ≤ n) (n2 : n ≤ 62) (x0 : 0 ≤ x) (x1 : x < 2 ^ n.toNat) (v : Int) : v ∈ ones x ↔ 0 ≤ v ∧ v < n ∧ tb x v = true := by
  unfold ones
  rw [onesFrom_mem]
  constructor
  · rintro ⟨i, rfl, h1, h2, h3⟩
    have ht : tb x i = true := by rw [tb_toNat x0 (by omega)]; simpa using h3
    refine ⟨by omega, ?_, ht⟩
    by_cases h : (i : Int) < n
    · exact h
    · rw [tb_high x0 x1 n0 (by omega)] at ht
      cases ht
  · rintro ⟨h1, h2, h3⟩
    refine ⟨v.toNat, by omega, by omega, by omega, ?_⟩
    rwa [tb_toNat x0 h1] at h3
theorem onesFrom_length (x : Nat) (d : Nat) : ∀ m, (onesFrom x d m).length ≤ d := by
  induction d with
  | zero => intro m; simp [onesFrom]
  | succ d ih =>
    intro m
    simp only [onesFrom]
    have := ih (m + 1)
    split <;> simp <;> omega
theorem ones_length (x : Int) : (ones x).length ≤ 62 := onesFrom_length _ 62 0
end Go.Proofs.YtkmpkcofddpdgaaDoor.Q
namespace Go.Proofs.YtkmpkcofddpdgaaDoor.Q
open Go Go.RowKit Go.Proofs.YtkmpkcofddpdgaaDoor.P Go.Proofs.YtkmpkcofddpdgaaDoorW.PrintWords Go.Proofs.YtkmpkcofddpdgaaDoorW.PrintMore
def Is (n x : Int) (P : Int → Prop) : Prop := Rw n x ∧ ∀ u, 0 ≤ u → u < n → (tb x u = true ↔ P u)
theorem Is.imp {n x : Int} {P Q : Int → Prop} (h : Is n x P) (e : ∀ u, 0 ≤ u → u < n → (P u ↔ Q u)) : Is n x Q := ⟨h.1, fun u u0 u1 => (h.2 u u0 u1).trans (e u u0 u1)⟩
theorem level_next {n : Int} {l : List Int} {s : Int} {r : List Int} (hr : Dist n l s r) {d S X : Int} (d0 : 0 ≤ d) (hX : Is n X fun u => ∃ w, (0 ≤ w ∧ w < n) ∧ rd r w = d ∧ tb (rd l w) u = true) (u : Int) (u0 : 0 ≤ u) (u1 : u < n) (hS : tb S u = true ↔ 0 ≤ rd r u ∧ rd r u ≤ d) : ((tb S u = true ∨ tb X u = true) ↔ 0 ≤ rd r u ∧ rd r u ≤ d + 1) ∧ ((tb X u = true ∧ ¬ tb S u = true) ↔ rd r u = d + 1) := by
  have a := hr.next d u d0 u0 u1
  rw [hS, hX.2 u u0 u1]
  constructor
  · constructor
    · rintro (z | z)
      · omega
      · by_cases q : 0 ≤ rd r u ∧ rd r u ≤ d
        · omega
        · have := a.2 ⟨z, q⟩
          omega
    · intro z
      by_cases q : 0 ≤ rd r u ∧ rd r u ≤ d
      · exact .inl q
      · exact .inr (a.1 (by omega)).1
  · exact a.symm
section
variable {n : Int} {l : List Int} (h : rows n l) {s : Int} (s0 : 0 ≤ s) (s1 : s < n) {r : List Int} (hr : Dist n l s r)
include h hr
theorem i_distances_l0 (M : Nat) (hM : ∀ u, 0 ≤ u → u < n → rd r u < (M : Int)) (e : Nat) : ∀ (d : Nat) (ds : List Int) (S L : Int), (M : Int) - d = e → (d : Int) ≤ 1000000 → (M : Int) ≤ 1000000 → (ds.length : Int) = n → (∀ u, 0 ≤ u → u < n → rd ds u = if 0 ≤ rd r u ∧ rd r u < d then rd r u else -1) → Is n S (fun u => 0 ≤ rd r u ∧ rd r u ≤ d) → Is n L (fun u => rd r u = d) → Ev (fun k => impl_Graph_distances.l0 k ds S L d n l) r := by
  have n2 := h.2.1
  have hl := h.2.2.1
  have n0 : 0 ≤ n := by have := h.1; omega
  have stop : ∀ (d : Nat) (ds : List Int) (S : Int), (ds.length : Int) = n → (∀ u, 0 ≤ u → u < n → rd ds u = if 0 ≤ rd r u ∧ rd r u < d then rd r u else -1) → (∀ u, 0 ≤ u → u < n → rd r u ≠ d) → Ev (fun k => impl_Graph_distances.l0 k ds S 0 d n l) r := by
    intro d ds S hlen hds hno
    have : ds = r := by
      refine rd_ext (by have := hr.len; omega) fun u u0 u1 => ?_
      have u1 : u < n := by omega
      rw [hds u u0 u1]
      have a := hr.stops d (by omega) hno u u0 u1
      have b := hr.low u u0 u1
      split <;> omega
    subst this
    refine ev_k ?_
    simp only [impl_Graph_distances.l0]
    exact ev_pos trivial (Ev.now _)
  induction e with
  | zero =>
    intro d ds S L he hd hM2 hlen hds hS hL
    have hno : ∀ u, 0 ≤ u → u < n → rd r u ≠ d := fun u u0 u1 => by have := hM u u0 u1; omega
    have : L = 0 := (hL.1.eq_zero n0).2 fun w w0 w1 z => hno w w0 w1 ((hL.2 w w0 w1).1 z)
    subst this
    exact stop d ds S hlen hds hno
  | succ e ih =>
    intro d ds S L he hd hM2 hlen hds hS hL
    by_cases hz : L = 0
    · subst hz
      exact stop d ds S hlen hds fun u u0 u1 z => (hL.1.eq_zero n0).1 rfl u u0 u1 ((hL.2 u u0 u1).2 z)
    · have hp := two_pow_le (n := n) n0 n2
      have inner : ∀ (ws pre ds : List Int) (X : Int), pre ++ ws = ones L → (ds.length : Int) = n → (∀ u, 0 ≤ u → u < n → rd ds u = if (0 ≤ rd r u ∧ rd r u < d) ∨ u ∈ pre then rd r u else -1) → Is n X (fun u => ∃ w, w ∈ pre ∧ tb (rd l w) u = true) → Ev (fun k => impl_Graph_distances.l1 k ds S d X (ones L) (ones L).length pre.length n l) r := by
        intro ws
        have ol := ones_length L
        have om := fun v => ones_mem n0 n2 hL.1.1 hL.1.2 v
        induction ws with
        | nil =>
          intro pre ds X hpre hlen hds hX
          rw [List.append_nil] at hpre
          subst hpre
          have hX2 : Is n X fun u => ∃ w, (0 ≤ w ∧ w < n) ∧ rd r w = d ∧ tb (rd l w) u = true := hX.imp fun u u0 u1 => by
            constructor
            · rintro ⟨w, hw, ht⟩
              obtain ⟨a, b, c⟩ := (om w).1 hw
              exact ⟨w, ⟨a, b⟩, (hL.2 w a b).1 c, ht⟩
            · rintro ⟨w, ⟨a, b⟩, c, ht⟩
              exact ⟨w, (om w).2 ⟨a, b, (hL.2 w a b).2 c⟩, ht⟩
          have o := or_rw n2 hS.1 hX.1
          have q := andNot_rw n2 hX.1 hS.1
          refine ev_k ?_
          simp only [impl_Graph_distances.l1]
          refine ev_neg (by omega) ?_
          rw [w64 (a := (d : Int) + 1) (by omega) (by omega)]
          refine ih (d + 1) ds _ _ (by omega) (by omega) hM2 hlen (fun u u0 u1 => ?_) ⟨o.1, fun u u0 u1 => ?_⟩ ⟨q.1, fun u u0 u1 => ?_⟩
          · rw [hds u u0 u1]
            have z : u ∈ ones L ↔ rd r u = d := (om u).trans ⟨fun z => (hL.2 u u0 u1).1 z.2.2, fun z => ⟨u0, u1, (hL.2 u u0 u1).2 z⟩⟩
            by_cases q : u ∈ ones L
            · have := z.1 q
              rw [if_pos (.inr q), if_pos (by omega)]
            · have q2 : rd r u ≠ d := fun e => q (z.2 e)
              by_cases p : 0 ≤ rd r u ∧ rd r u < d
              · rw [if_pos (.inl p), if_pos (by omega)]
              · rw [if_neg (by rintro (a | a); exact p a; exact q a), if_neg (by omega)]
          · rw [o.2 u u0]
            exact ((level_next hr (by omega) hX2 u u0 u1 (hS.2 u u0 u1)).1).trans (by omega)
          · rw [q.2 u u0]
            exact ((level_next hr (by omega) hX2 u u0 u1 (hS.2 u u0 u1)).2).trans (by omega)
        | cons w ws ihw =>
          intro pre ds X hpre hlen hds hX
          have hlt : pre.length < (ones L).length := by rw [← hpre]; simp
          have hw : rd (ones L) pre.length = w := by
            rw [← hpre]
            simp [rd, List.getD_eq_getElem?_getD]
          obtain ⟨w0, w1, wt⟩ := (om w).1 (by rw [← hpre]; simp)
          have hwd := (hL.2 w w0 w1).1 wt
          have o := or_rw n2 hX.1 (h.2.2.2 w w0 w1)
          refine ev_k ?_
          simp only [impl_Graph_distances.l1, hw]
          refine ev_pos (by omega) (ev_pos (by omega) (ev_pos (by omega) (ev_pos w0 (ev_pos (by omega) (ev_pos (by omega) ?_)))))
          rw [w64 (a := (pre.length : Int) + 1) (by omega) (by omega)]
          have := ihw (pre ++ [w]) (ds.set w.toNat d) (bits .or .i64 X (rd l w)) (by rw [← hpre]; simp) (by simpa using hlen) (fun u u0 u1 => ?_) ⟨o.1, fun u u0 u1 => ?_⟩
          · simpa using this
          · rw [rd_set _ w0 (by omega) u0]
            by_cases e : u = w
            · subst e
              rw [if_pos rfl, if_pos (.inr (by simp)), hwd]
            · rw [if_neg e, hds u u0 u1]
              simp [e]
          · rw [o.2 u u0, hX.2 u u0 u1]
            constructor
            · rintro (⟨x, hx, ht⟩ | ht)
              · exact ⟨x, by simp [hx], ht⟩
              · exact ⟨w, by simp, ht⟩
            · rintro ⟨x, hx, ht⟩
              rcases List.mem_append.1 hx with hx | hx
              · exact .inl ⟨x, hx, ht⟩
              · obtain rfl : x = w := by simpa using hx
                exact .inr ht
      refine ev_k ?_
      simp only [impl_Graph_distances.l0]
      refine ev_neg hz (Ev.bind (i_list hL.1.1 (by have := hL.1.2; omega)) ?_)
      have := inner (ones L) [] ds 0 (by simp) hlen (fun u u0 u1 => by rw [hds u u0 u1]; simp) ⟨(zero_rw n).1, fun u u0 u1 => ⟨fun z => absurd z ((zero_rw n).2 u), fun ⟨w, hw, _⟩ => by cases hw⟩⟩
      simpa using this
include s0 s1
theorem i_distances : Ev (fun k => impl_Graph_distances.f k n l s) r := by
  have n2 := h.2.1
  have n0 : 0 ≤ n := by have := h.1; omega
  have hb : ∀ u, 0 ≤ u → u < n → rd r u < 1000000 := fun u u0 u1 => by have := hr.small u u0 u1; omega
  obtain ⟨o1, o2⟩ := one_rw n2 s0 s1
  unfold impl_Graph_distances.f
  refine ev_bind0 (a := List.replicate n.toNat (-1)) ?_ (ev_pos s0 ?_)
  · unfold slices_Repeat_int64_int64.f
    rw [if_pos (show ([-1] : List Int).length = 1 from rfl), if_pos n0, if_pos (by omega)]
    rfl
  · refine i_distances_l0 h hr 1000000 hb 1000000 0 _ _ _ (by omega) (by omega) (by omega) (by simp; omega) (fun u u0 u1 => ?_) ⟨o1, fun u u0 u1 => ?_⟩ ⟨o1, fun u u0 u1 => ?_⟩
    · have : u.toNat < n.toNat := by omega
      rw [if_neg (by omega)]
      simp [rd, List.getD_eq_getElem?_getD, this]
    · rw [o2 u u0, ← hr.src u u0 u1]
      omega
    · rw [o2 u u0, ← hr.src u u0 u1]
      omega
end
end Go.Proofs.YtkmpkcofddpdgaaDoor.Q
namespace Go.Proofs.YtkmpkcofddpdgaaDoor.Q
open Go Go.RowKit Go.Proofs.YtkmpkcofddpdgaaDoorW.PrintWords Go.Proofs.YtkmpkcofddpdgaaDoorW.PrintMore
theorem rd_app_left {q : List Int} {u : Int} {i : Int} (i0 : 0 ≤ i) (i1 : i < q.length) : rd (q ++ [u]) i = rd q i := by
  simp only [rd, List.getD_eq_getElem?_getD]
  rw [List.getElem?_append_left (by omega)]
theorem rd_app_last (q : List Int) (u : Int) : rd (q ++ [u]) q.length = u := by
  simp [rd, List.getD_eq_getElem?_getD]
theorem rd_mem {q : List Int} {i : Int} (i0 : 0 ≤ i) (i1 : i < q.length) : rd q i ∈ q := by
  have hu : i.toNat < q.length := by omega
  have : rd q i = q[i.toNat] := by simp [rd, List.getD_eq_getElem?_getD, List.getElem?_eq_getElem hu]
  rw [this]
  exact List.getElem_mem _
theorem mem_rd {q : List Int} {u : Int} (h : u ∈ q) : ∃ i : Int, (0 ≤ i ∧ i < q.length) ∧ rd q i = u := by
  obtain ⟨i, hi, rfl⟩ := List.getElem_of_mem h
  exact ⟨i, by omega, by simp [rd, List.getD_eq_getElem?_getD, List.getElem?_eq_getElem hi]⟩
structure QI (n : Int) (l : List Int) (s : Int) (r ds q : List Int) (i : Int) : Prop where
  len : (ds.length : Int) = n
  at0 : 0 ≤ i ∧ i ≤ q.length
  val : ∀ u, 0 ≤ u → u < n → rd ds u = -1 ∨ (rd ds u = rd r u ∧ 0 ≤ rd r u)
  mem : ∀ u, u ∈ q ↔ (0 ≤ u ∧ u < n) ∧ 0 ≤ rd ds u
  mono : ∀ a b : Int, 0 ≤ a → a ≤ b → b < q.length → rd r (rd q a) ≤ rd r (rd q b)
  top : i < q.length → ∀ b : Int, 0 ≤ b → b < q.length → rd r (rd q b) ≤ rd r (rd q i) + 1
  clos : ∀ a : Int, 0 ≤ a → a < i → ∀ u, 0 ≤ u → u < n → tb (rd l (rd q a)) u = true → 0 ≤ rd ds u
  met : i < q.length → ∀ u, 0 ≤ u → u < n → 0 ≤ rd r u → rd r u ≤ rd r (rd q i) → 0 ≤ rd ds u
  cnt : ds.count (-1) + q.length = n
  src : s ∈ q
section
variable {n : Int} {l : List Int} {s : Int} {r : List Int} (hr : Dist n l s r)
theorem QI.head {ds q : List Int} {i : Int} (h : QI n l s r ds q i) (hi : i < q.length) : (0 ≤ rd q i ∧ rd q i < n) ∧ rd ds (rd q i) = rd r (rd q i) ∧ 0 ≤ rd r (rd q i) := by
  obtain ⟨hw, h0⟩ := (h.mem (rd q i)).1 (rd_mem h.at0.1 hi)
  rcases h.val _ hw.1 hw.2 with e | e
  · omega
  · exact ⟨hw, e.1, e.2⟩
theorem QI.at_ {ds q : List Int} {i : Int} (h : QI n l s r ds q i) {a : Int} (a0 : 0 ≤ a) (a1 : a < q.length) : (0 ≤ rd q a ∧ rd q a < n) ∧ rd ds (rd q a) = rd r (rd q a) ∧ 0 ≤ rd r (rd q a) := by
  obtain ⟨hw, h0⟩ := (h.mem (rd q a)).1 (rd_mem a0 a1)
  rcases h.val _ hw.1 hw.2 with e | e
  · omega
  · exact ⟨hw, e.1, e.2⟩
include hr
theorem QI.add {ds q : List Int} {i : Int} (h : QI n l s r ds q i) (hi : i < q.length) {u : Int} (u0 : 0 ≤ u) (u1 : u < n) (ht : tb (rd l (rd q i)) u = true) (hu : rd ds u < 0) : rd r u = rd r (rd q i) + 1 ∧ QI n l s r (ds.set u.toNat (rd r u)) (q ++ [u]) i := by
  obtain ⟨hw, hd, h0⟩ := h.head hi
  have i0 := h.at0.1
  have hnext := hr.next (rd r (rd q i)) u h0 u0 u1
  have e : rd r u = rd r (rd q i) + 1 := by
    refine hnext.2 ⟨⟨rd q i, hw, rfl, ht⟩, fun z => ?_⟩
    have := h.met hi u u0 u1 z.1 z.2
    omega
  have hlen := h.len
  have hs : ∀ v, 0 ≤ v → rd (ds.set u.toNat (rd r u)) v = if v = u then rd r u else rd ds v := fun v v0 => rd_set _ u0 (by omega) v0
  have nm : ∀ v, 0 ≤ v → 0 ≤ rd ds v → 0 ≤ rd (ds.set u.toNat (rd r u)) v := fun v v0 z => by
    rw [hs v v0]
    split <;> omega
  have len2 : ((q ++ [u]).length : Int) = q.length + 1 := by simp
  refine ⟨e, ⟨by simpa using hlen, by omega, fun v v0 v1 => ?_, fun v => ?_, fun a b a0 ab b1 => ?_, fun _ b b0 b1 => ?_, fun a a0 a1 v v0 v1 tv => ?_, fun _ v v0 v1 z y => ?_, ?_, by simp [h.src]⟩⟩
  · rw [hs v v0]
    by_cases z : v = u
    · rw [if_pos z, z]
      exact .inr ⟨rfl, by omega⟩
    · rw [if_neg z]
      exact h.val v v0 v1
  · rw [List.mem_append, List.mem_singleton, h.mem v]
    constructor
    · rintro (⟨z, y⟩ | rfl)
      · exact ⟨z, nm v z.1 y⟩
      · exact ⟨⟨u0, u1⟩, by rw [hs v u0, if_pos rfl]; omega⟩
    · rintro ⟨z, y⟩
      by_cases q : v = u
      · exact .inr q
      · rw [hs v z.1, if_neg q] at y
        exact .inl ⟨z, y⟩
  · by_cases hb : b = q.length
    · subst hb
      rw [rd_app_last]
      by_cases ha : a = q.length
      · subst ha
        rw [rd_app_last]
        omega
      · rw [rd_app_left a0 (by omega), e]
        exact h.top hi a a0 (by omega)
    · rw [rd_app_left a0 (by omega), rd_app_left (by omega) (by omega)]
      exact h.mono a b a0 ab (by omega)
  · rw [rd_app_left (q := q) (i := i) i0 hi]
    by_cases hb : b = q.length
    · subst hb
      rw [rd_app_last]
      omega
    · rw [rd_app_left b0 (by omega)]
      exact h.top hi b b0 (by omega)
  · rw [rd_app_left a0 (by omega)] at tv
    exact nm v v0 (h.clos a a0 a1 v v0 v1 tv)
  · rw [rd_app_left (q := q) (i := i) i0 hi] at y
    exact nm v v0 (h.met hi v v0 v1 z y)
  · have hul : u.toNat < ds.length := by omega
    have e1 : ds[u.toNat] = -1 := by
      have := h.val u u0 u1
      have e2 : rd ds u = ds[u.toNat] := by simp [rd, List.getD_eq_getElem?_getD, List.getElem?_eq_getElem hul]
      omega
    have c := List.count_set (a := rd r u) (b := (-1 : Int)) hul
    have cp : 0 < ds.count (-1) := List.count_pos_iff.2 (by rw [← e1]; exact List.getElem_mem _)
    rw [e1, if_pos (by simp), if_neg (by simp; omega)] at c
    have := h.cnt
    rw [c, List.length_append]
    simp
    omega
theorem QI.step {ds q : List Int} {i : Int} (h : QI n l s r ds q i) (hi : i < q.length) (hp : ∀ u, 0 ≤ u → u < n → tb (rd l (rd q i)) u = true → 0 ≤ rd ds u) : QI n l s r ds q (i + 1) := by
  obtain ⟨hw, hd, h0⟩ := h.head hi
  have i0 := h.at0.1
  have hcl : ∀ a : Int, 0 ≤ a → a < i + 1 → ∀ u, 0 ≤ u → u < n → tb (rd l (rd q a)) u = true → 0 ≤ rd ds u := fun a a0 a1 u u0 u1 tu => by
    by_cases e : a = i
    · subst e
      exact hp u u0 u1 tu
    · exact h.clos a a0 (by omega) u u0 u1 tu
  refine ⟨h.len, by omega, h.val, h.mem, h.mono, fun hi2 b b0 b1 => ?_, hcl, fun hi2 u u0 u1 z y => ?_, h.cnt, h.src⟩
  · have a := h.mono i (i + 1) i0 (by omega) hi2
    have c := h.top hi b b0 b1
    omega
  · have a := h.mono i (i + 1) i0 (by omega) hi2
    have c := h.top hi (i + 1) (by omega) hi2
    by_cases e : rd r u ≤ rd r (rd q i)
    · exact h.met hi u u0 u1 z e
    · obtain ⟨⟨w, hw, hwd, ht⟩, _⟩ := (hr.next (rd r (rd q i)) u h0 u0 u1).1 (by omega)
      have hwq : w ∈ q := (h.mem w).2 ⟨hw, h.met hi w hw.1 hw.2 (by omega) (by omega)⟩
      obtain ⟨a, ha, hae⟩ := mem_rd hwq
      have : a < i + 1 := by
        by_cases z2 : a < i + 1
        · exact z2
        · have := h.mono (i + 1) a (by omega) (by omega) ha.2
          rw [hae] at this
          omega
      rw [← hae] at ht
      exact hcl a ha.1 this u u0 u1 ht
theorem QI.done {ds q : List Int} {i : Int} (h : QI n l s r ds q i) (hi : ¬ i < q.length) : ds = r := by
  have hall : ∀ (d : Nat) (u : Int), 0 ≤ u → u < n → rd r u = (d : Int) → 0 ≤ rd ds u := by
    intro d
    induction d with
    | zero =>
      intro u u0 u1 hu
      have := (hr.src u u0 u1).1 hu
      subst this
      exact ((h.mem _).1 h.src).2
    | succ d ih =>
      intro u u0 u1 hu
      obtain ⟨⟨w, hw, hwd, ht⟩, _⟩ := (hr.next d u (by omega) u0 u1).1 (by omega)
      obtain ⟨a, ha, hae⟩ := mem_rd ((h.mem w).2 ⟨hw, ih w hw.1 hw.2 hwd⟩)
      rw [← hae] at ht
      exact h.clos a ha.1 (by omega) u u0 u1 ht
  refine rd_ext (by have := h.len; have := hr.len; omega) fun u u0 u1 => ?_
  have u1 : u < n := by have := h.len; omega
  have lw := hr.low u u0 u1
  rcases h.val u u0 u1 with e | e
  · by_cases z : rd r u < 0
    · omega
    · have := hall (rd r u).toNat u u0 u1 (by omega)
      omega
  · exact e.1
theorem QI.start (s0 : 0 ≤ s) (s1 : s < n) : QI n l s r ((List.replicate n.toNat (-1)).set s.toNat 0) [s] 0 := by
  have hs : ∀ v, 0 ≤ v → v < n → rd ((List.replicate n.toNat (-1)).set s.toNat 0) v = if v = s then 0 else -1 := fun v v0 v1 => by
    rw [rd_set _ s0 (by simp; omega) v0]
    have : v.toNat < n.toNat := by omega
    split
    · rfl
    · simp [rd, List.getD_eq_getElem?_getD, this]
  have h0 : rd [s] 0 = s := rfl
  have e0 := (hr.src s s0 s1).2 rfl
  have one : ∀ b : Int, 0 ≤ b → b < ([s].length : Nat) → rd [s] b = s := fun b b0 b1 => by
    obtain rfl : b = 0 := by simp at b1; omega
    rfl
  refine ⟨by simp; omega, by simp, fun u u0 u1 => ?_, fun u => ?_, fun a b a0 ab b1 => ?_, fun _ b b0 b1 => ?_, fun a a0 a1 => by omega, fun _ u u0 u1 z y => ?_, ?_, by simp⟩
  · rw [hs u u0 u1]
    by_cases e : u = s
    · rw [if_pos e, e, e0]
      exact .inr ⟨rfl, by omega⟩
    · exact .inl (if_neg e)
  · rw [List.mem_singleton]
    constructor
    · rintro rfl
      exact ⟨⟨s0, s1⟩, by rw [hs u s0 s1, if_pos rfl]; omega⟩
    · rintro ⟨z, y⟩
      rw [hs u z.1 z.2] at y
      by_cases e : u = s
      · exact e
      · rw [if_neg e] at y
        omega
  · rw [one a a0 (by omega), one b (by omega) b1]
    omega
  · rw [one b b0 b1, h0]
    omega
  · rw [h0, e0] at y
    rw [(hr.src u u0 u1).1 (by omega), hs s s0 s1, if_pos rfl]
    omega
  · have hul : s.toNat < (List.replicate n.toNat (-1 : Int)).length := by simp; omega
    have c := List.count_set (a := (0 : Int)) (b := (-1 : Int)) hul
    rw [c]
    simp
    omega
end
end Go.Proofs.YtkmpkcofddpdgaaDoor.Q
namespace Go.Proofs.YtkmpkcofddpdgaaDoor.Q
open Go Go.RowKit Go.Proofs.YtkmpkcofddpdgaaDoorW.PrintWords Go.Proofs.YtkmpkcofddpdgaaDoorW.PrintMore
open Classical in
noncomputable def dist (n : Int) (l : List Int) (s : Int) : List Int := if h : 0 ≤ n then (distL_exists n l s h).choose else []
theorem distL (n : Int) (l : List Int) (s : Int) (n0 : 0 ≤ n) : DistL n l s (dist n l s) := by
  unfold dist
  rw [dif_pos n0]
  exact (distL_exists n l s n0).choose_spec
theorem dist_of (n : Int) (l : List Int) (s : Int) (n0 : 0 ≤ n) : Dist n l s (dist n l s) := (distL n l s n0).dist
theorem dist_sym {n : Int} {l : List Int} (h : isG n l) {v u : Int} (v0 : 0 ≤ v) (v1 : v < n) (u0 : 0 ≤ u) (u1 : u < n) : rd (dist n l v) u = rd (dist n l u) v := by
  have n0 : 0 ≤ n := by omega
  have hg : ∀ v w, 0 ≤ v → v < n → 0 ≤ w → w < n → tb (rd l v) w = tb (rd l w) v := fun v w a b c d => h.2.2 v w a b c d
  have a := distL n l v n0
  have b := distL n l u n0
  rcases a.2 u u0 u1 with ⟨e, z⟩ | ⟨d, e, z⟩
  · rcases b.2 v v0 v1 with ⟨f, y⟩ | ⟨d, f, y⟩
    · rw [e, f]
    · exact absurd (Wk.back hg d v y.1) (z d)
  · rw [e, (b.ds v0 v1 d).2 (z.back hg)]
end Go.Proofs.YtkmpkcofddpdgaaDoor.Q
namespace Go.Proofs.YtkmpkcofddpdgaaDoor.Q
open Go Go.RowKit Go.Proofs.YtkmpkcofddpdgaaDoor.P Go.Proofs.YtkmpkcofddpdgaaDoorW.PrintWords Go.Proofs.YtkmpkcofddpdgaaDoorW.PrintMore
section
variable {n : Int} {l : List Int} (h : rows n l) (a b : Int) {l' : List Int} (hcut : ∀ w u, 0 ≤ w → w < n → 0 ≤ u → u < n → (tb (rd l' w) u = true ↔ tb (rd l w) u = true ∧ ¬ (w = a ∧ u = b) ∧ ¬ (w = b ∧ u = a))) {s : Int} (s0 : 0 ≤ s) (s1 : s < n) {r : List Int} (hr : Dist n l' s r)
include h hcut hr
theorem s_from_l1 (e : Nat) : ∀ (i : Int) (ds q : List Int), n - i = e → QI n l' s r ds q i → Ev (fun k => spec_l02From.l1 k a b ds q i n l) r := by
  have n1 := h.1
  have n2 := h.2.1
  have hl := h.2.2.1
  have stop : ∀ (i : Int) (ds q : List Int), QI n l' s r ds q i → ¬ i < q.length → Ev (fun k => spec_l02From.l1 k a b ds q i n l) r := by
    intro i ds q hq hi
    obtain rfl := hq.done hr hi
    refine ev_k ?_
    simp only [spec_l02From.l1]
    exact ev_neg hi (Ev.now _)
  induction e with
  | zero =>
    intro i ds q he hq
    exact stop i ds q hq (by have := hq.cnt; omega)
  | succ e ih =>
    intro i ds q he hq
    by_cases hi : i < q.length
    · have i0 := hq.at0.1
      have inner : ∀ (c : Nat) (u : Int) (ds q : List Int) (w : Int), QI n l' s r ds q i → i < q.length → rd q i = w → 0 ≤ u → u ≤ n → n - u = c → (∀ v, 0 ≤ v → v < u → tb (rd l' w) v = true → 0 ≤ rd ds v) → Ev (fun k => spec_l02From.l2 k a b ds q i w u n l) r := by
        intro c
        induction c with
        | zero =>
          intro u ds q w hq hi hw u0 u1 hc hp
          refine ev_k ?_
          simp only [spec_l02From.l2]
          rw [w64 (a := i + 1) (by have := hq.cnt; omega) (by have := hq.cnt; omega)]
          exact ev_neg (by omega) (ih (i + 1) ds q (by omega) (hq.step hr hi fun v v0 v1 tv => hp v v0 (by omega) (by rw [← hw]; exact tv)))
        | succ c ihc =>
          intro u ds q w hq hi hw u0 u1 hc hp
          obtain ⟨hwr, hwd, hw0⟩ := hq.head hi
          rw [hw] at hwr hwd hw0
          have hlen := hq.len
          have hcnt := hq.cnt
          have hc' := hcut w u hwr.1 hwr.2 u0 (by omega)
          have bq : bits .and .i64 (shr .i64 (rd l w) u) 1 = 0 ↔ ¬ tb (rd l w) u = true := by
            rw [bit_at u0 (by omega)]
            cases tb (rd l w) u <;> simp
          have skip : (tb (rd l' w) u = true → 0 ≤ rd ds u) → Ev (fun k => spec_l02From.l2 k a b ds q i w (u + 1) n l) r := fun z => ihc (u + 1) ds q w hq hi hw (by omega) (by omega) (by omega) fun v v0 v1 tv => by
            by_cases y : v = u
            · rw [y] at tv ⊢
              exact z tv
            · exact hp v v0 (by omega) tv
          refine ev_k ?_
          simp only [spec_l02From.l2]
          rw [wu64 u0 (by omega), w64 (a := u + 1) (by omega) (by omega)]
          refine ev_pos (by omega) (ev_pos hwr.1 (ev_pos (by omega) (ev_pos u0 ?_)))
          by_cases ht : tb (rd l w) u = true
          · refine ev_neg (fun z => bq.1 z ht) (ev_pos u0 (ev_pos (by omega) ?_))
            by_cases hu : rd ds u ≥ 0
            · exact ev_pos hu (skip fun _ => hu)
            · refine ev_neg hu ?_
              by_cases hx : (w = a ∧ u = b) ∨ (w = b ∧ u = a)
              · have sk := skip fun z => by
                  have := hc'.1 z
                  rcases hx with y | y
                  · exact absurd y this.2.1
                  · exact absurd y this.2.2
                refine ev_ite (fun q1 => ev_ite (fun q2 => sk) fun q2 => ev_ite (fun q3 => ev_ite (fun q4 => sk) fun q4 => ?_) fun q3 => ?_) fun q1 => ev_ite (fun q3 => ev_ite (fun q4 => sk) fun q4 => ?_) fun q3 => ?_
                all_goals exact absurd hx (by omega)
              · have ht' := hc'.2 ⟨ht, fun z => hx (.inl z), fun z => hx (.inr z)⟩
                have add : Ev (fun k => if w < (ds.length : Int) then (if q.length < 17592186044416 then (spec_l02From.l2 k a b (ds.set (u : Int).toNat (wrap64 ((rd ds w) + 1))) (q ++ [u]) i w (u + 1) n l) else (none)) else (none)) r := by
                  refine ev_pos (by omega) (ev_pos (by omega) ?_)
                  obtain ⟨e2, hq2⟩ := hq.add hr hi u0 (by omega) (by rw [hw]; exact ht') (by omega)
                  rw [hw] at e2
                  have hsm := hr.small w hwr.1 hwr.2
                  rw [hwd, w64 (a := rd r w + 1) (by omega) (by omega), ← e2]
                  refine ihc (u + 1) _ _ w hq2 (by simp; omega) (by rw [rd_app_left i0 hi]; exact hw) (by omega) (by omega) (by omega) fun v v0 v1 tv => ?_
                  rw [rd_set _ u0 (by omega) v0]
                  by_cases z : v = u
                  · rw [if_pos z]
                    omega
                  · rw [if_neg z]
                    exact hp v v0 (by omega) tv
                refine ev_ite (fun q1 => ev_ite (fun q2 => absurd (.inl ⟨q1, q2⟩) hx) fun q2 => ev_ite (fun q3 => ev_ite (fun q4 => absurd (.inr ⟨q3, q4⟩) hx) fun q4 => add) fun q3 => add) fun q1 => ev_ite (fun q3 => ev_ite (fun q4 => absurd (.inr ⟨q3, q4⟩) hx) fun q4 => add) fun q3 => add
          · exact ev_pos (bq.2 ht) (skip fun z => absurd (hc'.1 z).1 ht)
      refine ev_k ?_
      simp only [spec_l02From.l1]
      exact ev_pos hi (ev_pos i0 (inner n.toNat 0 ds q _ hq hi rfl (by omega) (by omega) (by omega) fun v v0 v1 => by omega))
    · exact stop i ds q hq hi
include s0 s1
theorem s_from_cut : Ev (fun k => spec_l02From.f k n l s a b) r := by
  have n1 := h.1
  have n2 := h.2.1
  have fill : ∀ (d : Nat) (i : Nat), (i : Int) ≤ n → n - i = d → Ev (fun k => spec_l02From.l0 k s a b (List.replicate i (-1)) i n l) r := by
    intro d
    induction d with
    | zero =>
      intro i h1 hd
      have := s_from_l1 h a b hcut hr n.toNat 0 _ _ (by omega) (QI.start hr s0 s1)
      refine ev_k ?_
      simp only [spec_l02From.l0]
      refine ev_neg (by omega) (ev_pos s0 (ev_pos (by simp; omega) ?_))
      rw [show i = n.toNat by omega]
      exact this
    | succ d ih =>
      intro i h1 hd
      have := ih (i + 1) (by omega) (by omega)
      refine ev_k ?_
      simp only [spec_l02From.l0]
      refine ev_pos (by omega) (ev_pos (by simp; omega) ?_)
      rw [w64 (a := (i : Int) + 1) (by omega) (by omega), ← List.replicate_succ']
      exact this
  unfold spec_l02From.f
  exact fill n.toNat 0 (by omega) (by omega)
end
theorem s_from {n : Int} {l : List Int} (h : rows n l) {s : Int} (s0 : 0 ≤ s) (s1 : s < n) {r : List Int} (hr : Dist n l s r) : Ev (fun k => spec_l02From.f k n l s (-1) (-1)) r :=
  s_from_cut h (-1) (-1) (fun w u w0 w1 u0 u1 => ⟨fun z => ⟨z, by omega, by omega⟩, fun z => z.1⟩) s0 s1 hr
noncomputable def dists (n : Int) (l : List Int) (m : Nat) : List (List Int) := (List.range m).map fun (j : Nat) => dist n l (j : Int)
theorem dists_length (n : Int) (l : List Int) (m : Nat) : (dists n l m).length = m := by simp [dists]
theorem dists_succ (n : Int) (l : List Int) (m : Nat) : dists n l (m + 1) = dists n l m ++ [dist n l m] := by simp [dists, List.range_succ]
theorem s_rows {n : Int} {l : List Int} (h : rows n l) : Ev (fun k => spec_l06Rows.f k n l) (dists n l n.toNat) := by
  have n1 := h.1
  have n2 := h.2.1
  have loop : ∀ (d : Nat) (i : Nat), (i : Int) ≤ n → n - i = d → Ev (fun k => spec_l06Rows.l0 k (dists n l i) i n l) (dists n l n.toNat) := by
    intro d
    induction d with
    | zero =>
      intro i h1 hd
      refine ev_k ?_
      simp only [spec_l06Rows.l0]
      refine ev_neg (by omega) (ev_some ?_)
      rw [show i = n.toNat by omega]
    | succ d ih =>
      intro i h1 hd
      refine ev_k ?_
      simp only [spec_l06Rows.l0]
      refine ev_pos (by omega) (Ev.bind (s_from h (by omega) (by omega) (dist_of n l i (by omega))) (ev_pos (by rw [dists_length]; omega) ?_))
      rw [w64 (by omega) (by omega), ← dists_succ]
      exact ih (i + 1) (by omega) (by omega)
  unfold spec_l06Rows.f
  exact loop n.toNat 0 (by omega) (by omega)
theorem rd_dists {n : Int} (l : List Int) {v : Int} (v0 : 0 ≤ v) (v1 : v < n) : rd_L1 (dists n l n.toNat) v = dist n l v := by
  have : v.toNat < n.toNat := by omega
  simp [rd_L1, dists, List.getD_eq_getElem?_getD, this]
  congr 1
  omega
end Go.Proofs.YtkmpkcofddpdgaaDoor.Q
namespace Go.Proofs.YtkmpkcofddpdgaaDoor.Q
open Go Go.RowKit Go.Proofs.YtkmpkcofddpdgaaDoor.P Go.Proofs.YtkmpkcofddpdgaaDoorW.PrintWords Go.Proofs.YtkmpkcofddpdgaaDoorW.PrintMore
theorem rd_mem' {q : List Int} {i : Int} (i0 : 0 ≤ i) (i1 : i < q.length) : rd q i ∈ q := by
  have hu : i.toNat < q.length := by omega
  have : rd q i = q[i.toNat] := by simp [rd, List.getD_eq_getElem?_getD, List.getElem?_eq_getElem hu]
  rw [this]
  exact List.getElem_mem _
theorem mem_rd' {q : List Int} {u : Int} (h : u ∈ q) : ∃ i : Int, (0 ≤ i ∧ i < q.length) ∧ rd q i = u := by
  obtain ⟨i, hi, rfl⟩ := List.getElem_of_mem h
  exact ⟨i, by omega, by simp [rd, List.getD_eq_getElem?_getD, List.getElem?_eq_getElem hi]⟩
end Go.Proofs.YtkmpkcofddpdgaaDoor.Q
namespace Go.Proofs.YtkmpkcofddpdgaaDoor.Q
open Go Go.RowKit Go.Proofs.YtkmpkcofddpdgaaDoor.P Go.Proofs.YtkmpkcofddpdgaaDoorW.PrintWords Go.Proofs.YtkmpkcofddpdgaaDoorW.PrintMore
noncomputable def ecc (n : Int) (l : List Int) (v : Int) : Int := top (dist n l v)
noncomputable def eccs (n : Int) (l : List Int) (m : Nat) : List Int := (List.range m).map fun (j : Nat) => ecc n l (j : Int)
theorem eccs_length (n : Int) (l : List Int) (m : Nat) : (eccs n l m).length = m := by simp [eccs]
theorem eccs_succ (n : Int) (l : List Int) (m : Nat) : eccs n l (m + 1) = eccs n l m ++ [ecc n l m] := by simp [eccs, List.range_succ]
theorem ecc_max {n : Int} (l : List Int) (n1 : 1 ≤ n) (n2 : n ≤ 62) (v : Int) : IsMax (dist n l v) (ecc n l v) := by
  have hlen := (dist_of n l v (by omega)).len
  obtain ⟨m, _, hm⟩ := r_max (dist n l v) (by omega) (by omega)
  unfold ecc
  rw [top_eq hm]
  exact hm
noncomputable def diam (n : Int) (l : List Int) : Int := top (eccs n l n.toNat)
theorem diam_max {n : Int} (l : List Int) (n1 : 1 ≤ n) (n2 : n ≤ 62) : IsMax (eccs n l n.toNat) (diam n l) := by
  have hlen := eccs_length n l n.toNat
  obtain ⟨m, _, hm⟩ := r_max (eccs n l n.toNat) (by omega) (by omega)
  unfold diam
  rw [top_eq hm]
  exact hm
section
variable {n : Int} {l : List Int} (h : rows n l)
include h
theorem i_reaches : Ev (fun k => impl_Graph_reaches.f k n l) (eccs n l n.toNat) := by
  have n1 := h.1
  have n2 := h.2.1
  have loop : ∀ (d : Nat) (i : Nat), (i : Int) ≤ n → n - i = d → Ev (fun k => impl_Graph_reaches.l0 k (eccs n l i) n i n l) (eccs n l n.toNat) := by
    intro d
    induction d with
    | zero =>
      intro i h1 hd
      refine ev_k ?_
      simp only [impl_Graph_reaches.l0]
      refine ev_neg (by omega) (ev_some ?_)
      rw [show i = n.toNat by omega]
    | succ d ih =>
      intro i h1 hd
      have hdist := dist_of n l i (by omega)
      have hlen := hdist.len
      obtain ⟨m, hm, hmax⟩ := r_max (dist n l i) (by omega) (by omega)
      have em : m = ecc n l i := (ecc_max l n1 n2 i).uniq hmax |>.symm
      rw [em] at hm
      have := ih (i + 1) (by omega) (by omega)
      rw [eccs_succ] at this
      refine ev_k ?_
      simp only [impl_Graph_reaches.l0]
      refine ev_pos (by omega) (Ev.bind (i_distances h (by omega) (by omega) hdist) (Ev.bind hm (ev_pos (by rw [eccs_length]; omega) ?_)))
      rw [w64 (a := (i : Int) + 1) (by omega) (by omega)]
      exact this
  unfold impl_Graph_reaches.f
  exact loop n.toNat 0 (by omega) (by omega)
theorem s_levels {v : Int} (v0 : 0 ≤ v) (v1 : v < n) : ∃ q : List Int, Ev (fun k => spec_l02Levels.f k n l v) q ∧ (q.length : Int) = ecc n l v + 1 := by
  have n1 := h.1
  have n2 := h.2.1
  have hd := dist_of n l v (by omega)
  have hlen := hd.len
  have hmax := ecc_max l n1 n2 v
  generalize hr : dist n l v = r at *
  have hsm : ∀ u, 0 ≤ u → u < n → rd r u < n := hd.small
  have l0 : ∀ (d : Nat) (w : Int) (out : List Int), 0 ≤ w → w ≤ n → n - w = d → (∀ u, 0 ≤ u → u < w → rd r u < out.length) → (out.length = 0 ∨ ∃ u, (0 ≤ u ∧ u < n) ∧ (out.length : Int) ≤ rd r u + 1) → ∃ q : List Int, Ev (fun k => spec_l02Levels.l0 k r out w) q ∧ (q.length : Int) = ecc n l v + 1 := by
    intro d
    induction d with
    | zero =>
      intro w out w0 w1 hw ha hb
      refine ⟨out, ev_k ?_, ?_⟩
      · simp only [spec_l02Levels.l0]
        exact ev_neg (by omega) (Ev.now _)
      · have hs := ha v v0 (by omega)
        have h0 := (hd.src v v0 v1).2 rfl
        obtain ⟨m1, u, u0, u1, e⟩ := hmax
        have := ha u u0 (by omega)
        rcases hb with hb | ⟨u', hu, hb⟩
        · omega
        · have := m1 u' hu.1 (by omega)
          omega
    | succ d ih =>
      intro w out w0 w1 hw ha hb
      have hsw := hsm w w0 (by omega)
      have l1 : ∀ (e : Nat) (out : List Int), rd r w + 1 - out.length ≤ e → (∀ u, 0 ≤ u → u < w → rd r u < out.length) → (out.length = 0 ∨ ∃ u, (0 ≤ u ∧ u < n) ∧ (out.length : Int) ≤ rd r u + 1) → ∃ q : List Int, Ev (fun k => spec_l02Levels.l1 k r out w) q ∧ (q.length : Int) = ecc n l v + 1 := by
        intro e
        induction e with
        | zero =>
          intro out he ha hb
          by_cases z : rd r w ≥ 0
          · obtain ⟨q, hq, hl⟩ := ih (w + 1) (out.set (rd r w).toNat (wrap64 (rd out (rd r w) + 1))) (by omega) (by omega) (by omega) (fun u u0 u1 => by
              rw [List.length_set]
              by_cases e : u = w
              · rw [e]; omega
              · exact ha u u0 (by omega)) (by rw [List.length_set]; exact hb)
            refine ⟨q, ev_k ?_, hl⟩
            simp only [spec_l02Levels.l1]
            rw [w64 (a := w + 1) (by omega) (by omega)]
            exact ev_pos w0 (ev_pos (by omega) (ev_neg (by omega) (ev_pos z (ev_pos z (ev_pos (by omega) hq)))))
          · obtain ⟨q, hq, hl⟩ := ih (w + 1) out (by omega) (by omega) (by omega) (fun u u0 u1 => by
              by_cases e : u = w
              · rw [e]; omega
              · exact ha u u0 (by omega)) hb
            refine ⟨q, ev_k ?_, hl⟩
            simp only [spec_l02Levels.l1]
            rw [w64 (a := w + 1) (by omega) (by omega)]
            exact ev_pos w0 (ev_pos (by omega) (ev_neg (by omega) (ev_neg z hq)))
        | succ e ihe =>
          intro out he ha hb
          by_cases y : (out.length : Int) ≤ rd r w
          · obtain ⟨q, hq, hl⟩ := ihe (out ++ [0]) (by simp; omega) (fun u u0 u1 => by have := ha u u0 u1; simp; omega) (.inr ⟨w, ⟨w0, by omega⟩, by simp; omega⟩)
            refine ⟨q, ev_k ?_, hl⟩
            simp only [spec_l02Levels.l1]
            exact ev_pos w0 (ev_pos (by omega) (ev_pos y (ev_pos (by omega) hq)))
          · by_cases z : rd r w ≥ 0
            · obtain ⟨q, hq, hl⟩ := ih (w + 1) (out.set (rd r w).toNat (wrap64 (rd out (rd r w) + 1))) (by omega) (by omega) (by omega) (fun u u0 u1 => by
                rw [List.length_set]
                by_cases e : u = w
                · rw [e]; omega
                · exact ha u u0 (by omega)) (by rw [List.length_set]; exact hb)
              refine ⟨q, ev_k ?_, hl⟩
              simp only [spec_l02Levels.l1]
              rw [w64 (a := w + 1) (by omega) (by omega)]
              exact ev_pos w0 (ev_pos (by omega) (ev_neg y (ev_pos z (ev_pos z (ev_pos (by omega) hq)))))
            · obtain ⟨q, hq, hl⟩ := ih (w + 1) out (by omega) (by omega) (by omega) (fun u u0 u1 => by
                by_cases e : u = w
                · rw [e]; omega
                · exact ha u u0 (by omega)) hb
              refine ⟨q, ev_k ?_, hl⟩
              simp only [spec_l02Levels.l1]
              rw [w64 (a := w + 1) (by omega) (by omega)]
              exact ev_pos w0 (ev_pos (by omega) (ev_neg y (ev_neg z hq)))
      obtain ⟨q, hq, hl⟩ := l1 (rd r w + 1 - out.length).toNat out (by omega) ha hb
      refine ⟨q, ev_k ?_, hl⟩
      simp only [spec_l02Levels.l0]
      exact ev_pos (by omega) hq
  obtain ⟨q, hq, hl⟩ := l0 n.toNat 0 [] (by omega) (by omega) (by omega) (fun u u0 u1 => by omega) (.inl rfl)
  refine ⟨q, ?_, hl⟩
  unfold spec_l02Levels.f
  exact Ev.bind (s_from h v0 v1 hd) hq
theorem s_reaches : Ev (fun k => spec_l02Reaches.f k n l) (eccs n l n.toNat) := by
  have n1 := h.1
  have n2 := h.2.1
  have loop : ∀ (d : Nat) (i : Nat), (i : Int) ≤ n → n - i = d → Ev (fun k => spec_l02Reaches.l0 k (eccs n l i) i n l) (eccs n l n.toNat) := by
    intro d
    induction d with
    | zero =>
      intro i h1 hd
      refine ev_k ?_
      simp only [spec_l02Reaches.l0]
      refine ev_neg (by omega) (ev_some ?_)
      rw [show i = n.toNat by omega]
    | succ d ih =>
      intro i h1 hd
      obtain ⟨q, hq, hl⟩ := s_levels h (v := i) (by omega) (by omega)
      have hs := (dist_of n l i (by omega)).small
      obtain ⟨_, u, u0, u1, e⟩ := ecc_max l n1 n2 i
      have hlen := (dist_of n l i (by omega)).len
      have lo := (dist_of n l i (by omega)).low u u0 (by omega)
      have hi := hs u u0 (by omega)
      have := ih (i + 1) (by omega) (by omega)
      rw [eccs_succ] at this
      refine ev_k ?_
      simp only [spec_l02Reaches.l0]
      refine ev_pos (by omega) (Ev.bind hq (ev_pos (by rw [eccs_length]; omega) ?_))
      rw [hl, w64 (a := (i : Int) + 1) (by omega) (by omega), w64 (a := ecc n l i + 1 - 1) (by omega) (by omega), Int.add_sub_cancel]
      exact this
  unfold spec_l02Reaches.f
  exact loop n.toNat 0 (by omega) (by omega)
theorem s_diameter : ∃ b, Ev (fun k => spec_l02Diameter.f k n l) (diam n l, b) := by
  have n1 := h.1
  have n2 := h.2.1
  have hlen := eccs_length n l n.toNat
  have hmax := diam_max l n1 n2
  have hs := s_reaches h
  generalize eccs n l n.toNat = es at *
  have loop : ∀ (d : Nat) (i a b : Int), 0 ≤ i → i ≤ es.length → es.length - i = d → (∀ j, 0 ≤ j → j < i → rd es j ≤ a) → (∃ j : Int, (0 ≤ j ∧ j < es.length) ∧ a = rd es j) → ∃ c, Ev (fun k => spec_l02Diameter.l0 k es a b i) (diam n l, c) := by
    intro d
    induction d with
    | zero =>
      intro i a b i0 i1 hd h1 h2
      obtain ⟨j, hj, e⟩ := h2
      have : a = diam n l := IsMax.uniq ⟨fun j j0 j1 => h1 j j0 (by omega), j, hj.1, hj.2, e⟩ hmax
      rw [← this]
      refine ⟨b, ev_k ?_⟩
      simp only [spec_l02Diameter.l0]
      exact ev_neg (by omega) (Ev.now _)
    | succ d ih =>
      intro i a b i0 i1 hd h1 h2
      have e : a ≤ mx a (rd es i) ∧ rd es i ≤ mx a (rd es i) ∧ (mx a (rd es i) = a ∨ mx a (rd es i) = rd es i) := by
        unfold mx
        split <;> omega
      obtain ⟨c, hc⟩ := ih (i + 1) (mx a (rd es i)) (mn b (rd es i)) (by omega) (by omega) (by omega) (fun j j0 j1 => by
        by_cases z : j = i
        · rw [z]; omega
        · have := h1 j j0 (by omega)
          omega) (by
        rcases e.2.2 with z | z
        · rw [z]; exact h2
        · exact ⟨i, by omega, z⟩)
      refine ⟨c, ev_k ?_⟩
      simp only [spec_l02Diameter.l0]
      rw [w64 (a := i + 1) (by omega) (by omega)]
      exact ev_pos (by omega) (ev_pos i0 hc)
  obtain ⟨c, hc⟩ := loop (es.length - 1) 1 (rd es 0) (rd es 0) (by omega) (by omega) (by omega) (fun j j0 j1 => by rw [show j = 0 by omega]; exact Int.le_refl _) ⟨0, by omega, rfl⟩
  refine ⟨c, ?_⟩
  unfold spec_l02Diameter.f
  exact Ev.bind hs (ev_pos (by omega) hc)
end
end Go.Proofs.YtkmpkcofddpdgaaDoor.Q
namespace Go.Proofs.YtkmpkcofddpdgaaDoor.Q
open Go Go.RowKit Go.Proofs.YtkmpkcofddpdgaaDoor.P Go.Proofs.YtkmpkcofddpdgaaDoorW.PrintWords Go.Proofs.YtkmpkcofddpdgaaDoorW.PrintMore
def joined (m : List Int) (v u : Int) : List Int :=
  let y := m.set v.toNat (bits .or .i64 (rd m v) (shl .i64 1 u))
  y.set u.toNat (bits .or .i64 (rd y u) (shl .i64 1 v))
theorem Mx.joined {n : Int} {m : List Int} {P : Int → Int → Prop} (h : Mx n m P) (n2 : n ≤ 62) {v u : Int} (v0 : 0 ≤ v) (v1 : v < n) (u0 : 0 ≤ u) (u1 : u < n) : Mx n (joined m v u) (fun a b => P a b ∨ (a = v ∧ b = u) ∨ (a = u ∧ b = v)) :=
  ((h.or n2 v0 v1 u0 u1).or n2 u0 u1 v0 v1).imp fun a b _ _ _ _ => ⟨fun z => by rcases z with (z | z) | z; exact .inl z; exact .inr (.inl z); exact .inr (.inr z), fun z => by rcases z with z | z | z; exact .inl (.inl z); exact .inl (.inr z); exact .inr z⟩
theorem s_with (n : Int) (m : List Int) (v u : Int) (v0 : 0 ≤ v) (v1 : v < m.length) (u0 : 0 ≤ u) (u1 : u < m.length) (hm : m.length ≤ 62) : spec_l04With.f n m v u = some (n, joined m v u) := by
  unfold spec_l04With.f joined
  rw [wu64 v0 (by omega), wu64 u0 (by omega), if_pos v0, if_pos v1, if_pos u0]
  simp only [Option.bind_some]
  rw [if_pos u0, if_pos u1, if_pos v0]
theorem i_put (n : Int) (m : List Int) (v u : Int) (v0 : 0 ≤ v) (v1 : v < m.length) (u0 : 0 ≤ u) (u1 : u < m.length) (e : v ≠ u) : impl_Graph_put.f n m v u = some (joined m v u) := by
  unfold impl_Graph_put.f joined
  rw [if_neg e, if_pos v0, if_pos v1, if_pos u0]
  simp only [Option.bind_some]
  rw [if_pos u1]
theorem s_empty (n : Int) (n0 : 0 ≤ n) (n2 : n ≤ 62) : spec_l01Empty.f n = some (n, List.replicate n.toNat 0) := by
  unfold spec_l01Empty.f
  rw [if_pos n0, if_pos (by omega)]
theorem i_empty (n : Int) (n0 : 0 ≤ n) (n2 : n ≤ 62) : impl_empty.f n = some (n, List.replicate n.toNat 0) := by
  unfold impl_empty.f
  rw [if_pos n0, if_pos (by omega)]
end Go.Proofs.YtkmpkcofddpdgaaDoor.Q
namespace Go.Proofs.YtkmpkcofddpdgaaDoor.Q
open Go Go.RowKit Go.Proofs.YtkmpkcofddpdgaaDoor.P Go.Proofs.YtkmpkcofddpdgaaDoorW.PrintWords Go.Proofs.YtkmpkcofddpdgaaDoorW.PrintMore
def near (n : Int) (l : List Int) (c a b : Int) : Prop := 1 ≤ rd (dist n l a) b ∧ rd (dist n l a) b = c
section
variable {n : Int} {l : List Int} (h : isG n l) (c : Int) (c1 : 1 ≤ c)
include h
theorem near_sym {a b : Int} (a0 : 0 ≤ a) (a1 : a < n) (b0 : 0 ≤ b) (b1 : b < n) : near n l c a b ↔ near n l c b a := by
  unfold near
  rw [dist_sym h a0 a1 b0 b1]
omit h in
theorem near_ne {a b : Int} (a0 : 0 ≤ a) (a1 : a < n) (z : near n l c a b) : a ≠ b := by
  rintro rfl
  have := ((dist_of n l a (by omega)).src a a0 a1).2 rfl
  unfold near at z
  omega
include c1 in
theorem i_power : ∃ r, Mx n r (near n l c) ∧ Ev (fun k => impl_Graph_at.l0 k c n 0 n l n (List.replicate n.toNat 0)) (n, r) := by
  have n1 := h.1.1
  have n2 := h.1.2.1
  have n0 : 0 ≤ n := by omega
  have outer : ∀ (d : Nat) (v : Int) (m : List Int), 0 ≤ v → v ≤ n → n - v = d → Mx n m (fun a b => (a < v ∨ b < v) ∧ near n l c a b) → ∃ r, Mx n r (near n l c) ∧ Ev (fun k => impl_Graph_at.l0 k c n v n l n m) (n, r) := by
    intro d
    induction d with
    | zero =>
      intro v m v0 v1 hd hm
      refine ⟨m, hm.imp fun a b a0 a1 b0 b1 => ⟨fun z => z.2, fun z => ⟨by omega, z⟩⟩, ev_k ?_⟩
      simp only [impl_Graph_at.l0]
      exact ev_neg (by omega) (Ev.now _)
    | succ d ih =>
      intro v m v0 v1 hd hm
      have hd' := i_distances h.1 v0 (by omega) (dist_of n l v n0)
      have hlen := (dist_of n l v n0).len
      have inner : ∀ (e : Nat) (u : Int) (m : List Int), 0 ≤ u → u ≤ n → n - u = e → Mx n m (fun a b => ((a < v ∨ b < v) ∨ (a = v ∧ b < u) ∨ (b = v ∧ a < u)) ∧ near n l c a b) → ∃ r, Mx n r (near n l c) ∧ Ev (fun k => impl_Graph_at.l1 k c v n v (dist n l v) (dist n l v).length u n l n m) (n, r) := by
        intro e
        induction e with
        | zero =>
          intro u m u0 u1 he hm
          obtain ⟨r, hr, hx⟩ := ih (v + 1) m (by omega) (by omega) (by omega) (hm.imp fun a b a0 a1 b0 b1 => and_congr (by omega) Iff.rfl)
          refine ⟨r, hr, ev_k ?_⟩
          simp only [impl_Graph_at.l1]
          rw [w64 (a := v + 1) (by omega) (by omega)]
          exact ev_neg (by omega) hx
        | succ e ihe =>
          intro u m u0 u1 he hm
          have hl := hm.1
          by_cases hq : near n l c v u
          · obtain ⟨r, hr, hx⟩ := ihe (u + 1) _ (by omega) (by omega) (by omega) ((hm.joined n2 v0 (by omega) u0 (by omega : u < n)).imp (Q := fun a b => ((a < v ∨ b < v) ∨ (a = v ∧ b < u + 1) ∨ (b = v ∧ a < u + 1)) ∧ near n l c a b) fun a b a0 a1 b0 b1 => by
              constructor
              · rintro (⟨z, y⟩ | ⟨rfl, rfl⟩ | ⟨rfl, rfl⟩)
                · exact ⟨by omega, y⟩
                · exact ⟨by omega, hq⟩
                · exact ⟨by omega, (near_sym h c a0 a1 b0 b1).2 hq⟩
              · rintro ⟨z, y⟩
                by_cases q : (a = v ∧ b = u) ∨ (a = u ∧ b = v)
                · exact .inr q
                · exact .inl ⟨by omega, y⟩)
            refine ⟨r, hr, ev_k ?_⟩
            simp only [impl_Graph_at.l1]
            rw [w64 (a := u + 1) (by omega) (by omega)]
            exact ev_pos (by omega) (ev_pos u0 (ev_pos (by omega) (ev_pos hq.2 (ev_bind0 (i_put n m v u v0 (by omega) u0 (by omega) (near_ne c v0 (by omega) hq)) hx))))
          · obtain ⟨r, hr, hx⟩ := ihe (u + 1) m (by omega) (by omega) (by omega) (hm.imp fun a b a0 a1 b0 b1 => by
              constructor
              · rintro ⟨z, y⟩
                exact ⟨by omega, y⟩
              · rintro ⟨z, y⟩
                by_cases q : (a = v ∧ b = u) ∨ (a = u ∧ b = v)
                · rcases q with ⟨rfl, rfl⟩ | ⟨rfl, rfl⟩
                  · exact absurd y hq
                  · exact absurd ((near_sym h c a0 a1 b0 b1).1 y) hq
                · exact ⟨by omega, y⟩)
            refine ⟨r, hr, ev_k ?_⟩
            simp only [impl_Graph_at.l1]
            rw [w64 (a := u + 1) (by omega) (by omega)]
            exact ev_pos (by omega) (ev_pos u0 (ev_pos (by omega) (ev_neg (fun y => hq ⟨by omega, y⟩) hx)))
      obtain ⟨r, hr, hx⟩ := inner n.toNat 0 m (by omega) (by omega) (by omega) (hm.imp fun a b a0 a1 b0 b1 => and_congr (by omega) Iff.rfl)
      refine ⟨r, hr, ev_k ?_⟩
      simp only [impl_Graph_at.l0]
      exact ev_pos (by omega) (Ev.bind hd' hx)
  exact outer n.toNat 0 _ (by omega) (by omega) (by omega) ((Mx.zero n n0).imp fun a b a0 a1 b0 b1 => ⟨False.elim, fun z => by omega⟩)
include c1 in
theorem i_at : ∃ r, Mx n r (near n l c) ∧ Ev (fun k => impl_Graph_at.f k n l c) (n, r) := by
  have n1 := h.1.1
  have n2 := h.1.2.1
  obtain ⟨r, hr, hx⟩ := i_power h c c1
  refine ⟨r, hr, ?_⟩
  unfold impl_Graph_at.f
  exact ev_bind0 (i_empty n (by omega) n2) hx
end
end Go.Proofs.YtkmpkcofddpdgaaDoor.Q
namespace Go.Proofs.YtkmpkcofddpdgaaDoor.Q
open Go Go.RowKit Go.Proofs.YtkmpkcofddpdgaaDoor.P
theorem s_in (a b c : Int) : spec_l01In.f a b c = some (decide (b ≤ a ∧ a ≤ c)) := by
  unfold spec_l01In.f
  split
  · exact congrArg some (decide_eq_decide.2 (by omega))
  · exact congrArg some (decide_eq_false (by omega)).symm
end Go.Proofs.YtkmpkcofddpdgaaDoor.Q
namespace Go.Proofs.YtkmpkcofddpdgaaDoor.Q
open Go Go.RowKit
end Go.Proofs.YtkmpkcofddpdgaaDoor.Q
namespace Go.Proofs.YtkmpkcofddpdgaaDoor.Q
open Go Go.RowKit Go.Proofs.YtkmpkcofddpdgaaDoor.P Go.Proofs.YtkmpkcofddpdgaaDoorW.PrintWords Go.Proofs.YtkmpkcofddpdgaaDoorW.PrintMore
set_option linter.unusedVariables false
theorem s_has (n : Int) (l : List Int) (v w : Int) (v0 : 0 ≤ v) (v1 : v < l.length) (w0 : 0 ≤ w) (w1 : w ≤ 63) : spec_l01Has.f n l v w = some (tb (rd l v) w) := by
  unfold spec_l01Has.f
  rw [if_pos v0, if_pos v1, wu64 w0 (by omega), if_pos w0, bit_is w0 w1]
section
variable {n : Int} {l : List Int} (n1 : 1 ≤ n) (n2 : n ≤ 62) (hn : (l.length : Int) = n)
include n1 n2 hn
theorem s_is_l1 (d : Nat) : ∀ v : Int, 0 ≤ v → v ≤ n → n - v = d → Says (fun k => spec_l01Is.l1 k v n l) (∀ a, v ≤ a → a < n → ∀ b, 0 ≤ b → b < a → tb (rd l a) b = tb (rd l b) a) := by
  induction d with
  | zero =>
    intro v v0 v1 hd
    refine says_k ?_
    simp only [spec_l01Is.l1]
    exact says_neg (by omega) (says_true fun a _ _ => by omega)
  | succ d ih =>
    intro v v0 v1 hd
    have hv : v < n := by omega
    have inner : ∀ (e : Nat) (w : Int), 0 ≤ w → w ≤ v → v - w = e → Says (fun k => spec_l01Is.l2 k v w n l) ((∀ b, w ≤ b → b < v → tb (rd l v) b = tb (rd l b) v) ∧ ∀ a, v + 1 ≤ a → a < n → ∀ b, 0 ≤ b → b < a → tb (rd l a) b = tb (rd l b) a) := by
      intro e
      induction e with
      | zero =>
        intro w w0 w1 he
        refine says_k ?_
        simp only [spec_l01Is.l2]
        refine says_neg (by omega) ?_
        rw [w64 (a := v + 1) (by omega) (by omega)]
        exact says_iff ⟨fun h => h.2, fun h => ⟨fun b _ _ => by omega, h⟩⟩ (ih (v + 1) (by omega) (by omega) (by omega))
      | succ e ihe =>
        intro w w0 w1 he
        refine says_k ?_
        simp only [spec_l01Is.l2]
        refine says_pos (by omega) ?_
        rw [s_has n l v w v0 (by omega) w0 (by omega), s_has n l w v w0 (by omega) v0 (by omega)]
        simp only [Option.bind_some]
        by_cases h : tb (rd l v) w = tb (rd l w) v
        · refine says_neg (by simp [h]) ?_
          rw [w64 (a := w + 1) (by omega) (by omega)]
          exact says_iff ⟨fun z => ⟨fun b b0 b1 => z.1 b (by omega) b1, z.2⟩, fun z => ⟨fun b b0 b1 => if hb : b = w then by rw [hb]; exact h else z.1 b (by omega) b1, z.2⟩⟩ (ihe (w + 1) (by omega) (by omega) (by omega))
        · exact says_pos (by simp [h]) (says_false fun z => h (z.1 w (by omega) (by omega)))
    refine says_k ?_
    simp only [spec_l01Is.l1]
    exact says_pos hv (says_iff ⟨fun z => ⟨fun b b0 b1 => z v (by omega) hv b b0 b1, fun a a0 a1 => z a (by omega) a1⟩, fun z a a0 a1 b b0 b1 => if ha : a = v then by subst ha; exact z.1 b b0 b1 else z.2 a (by omega) a1 b b0 b1⟩ (inner v.toNat 0 (by omega) (by omega) (by omega)))
theorem s_is_l0 (d : Nat) : ∀ v : Int, 0 ≤ v → v ≤ n → n - v = d → Says (fun k => spec_l01Is.l0 k v n l) ((∀ a, v ≤ a → a < n → (0 ≤ rd l a ∧ rd l a < 2 ^ n.toNat) ∧ tb (rd l a) a = false) ∧ ∀ a, 0 ≤ a → a < n → ∀ b, 0 ≤ b → b < a → tb (rd l a) b = tb (rd l b) a) := by
  have hp := two_pow_le (n := n) (by omega) n2
  induction d with
  | zero =>
    intro v v0 v1 hd
    refine says_k ?_
    simp only [spec_l01Is.l0]
    exact says_neg (by omega) (says_iff ⟨fun h => h.2, fun h => ⟨fun a _ _ => by omega, h⟩⟩ (s_is_l1 n1 n2 hn n.toNat 0 (by omega) (by omega) (by omega)))
  | succ d ih =>
    intro v v0 v1 hd
    refine says_k ?_
    simp only [spec_l01Is.l0]
    rw [wu64 (a := n) (by omega) (by omega), shl_one (by omega) n2, w64 (a := 2 ^ n.toNat - 1) (by omega) (by omega)]
    refine says_pos (by omega) (says_pos v0 (says_pos (by omega) (says_pos (by omega) ?_)))
    rw [s_in, s_has n l v v v0 (by omega) v0 (by omega)]
    simp only [Option.bind_some]
    by_cases h : 0 ≤ rd l v ∧ rd l v ≤ 2 ^ n.toNat - 1
    · refine says_pos (decide_eq_true h) ?_
      by_cases ht : tb (rd l v) v = true
      · exact says_pos ht (says_false fun z => by have := (z.1 v (by omega) (by omega)).2; rw [ht] at this; cases this)
      · refine says_neg ht ?_
        rw [w64 (a := v + 1) (by omega) (by omega)]
        refine says_iff ⟨fun z => ⟨fun a a0 a1 => z.1 a (by omega) a1, z.2⟩, fun z => ⟨fun a a0 a1 => if ha : a = v then ?_ else z.1 a (by omega) a1, z.2⟩⟩ (ih (v + 1) (by omega) (by omega) (by omega))
        subst ha
        exact ⟨by omega, by simpa using ht⟩
    · exact says_neg (by simpa using h) (says_false fun z => h (by have := (z.1 v (by omega) (by omega)).1; omega))
theorem i_is_l1 (v : Int) (v0 : 0 ≤ v) (v1 : v < n) (x : Int) (y3 y4 : Int) (y5 : List Int) (P : Prop) (hc : Says (fun k => impl_IsGraph.l0 k n y5 y3 (wrap64 (y4 + 1)) n l) P) (d : Nat) : ∀ w : Int, 0 ≤ w → w ≤ n → n - w = d →
    Says (fun k => impl_IsGraph.l1 k n v x y5 y3 y4 n w n l) ((∀ b, w ≤ b → b < n → tb x b = tb (rd l b) v) ∧ P) := by
  induction d with
  | zero =>
    intro w w0 w1 hd
    refine says_k ?_
    simp only [impl_IsGraph.l1]
    exact says_neg (by omega) (says_iff ⟨fun h => h.2, fun h => ⟨fun b _ _ => by omega, h⟩⟩ hc)
  | succ d ih =>
    intro w w0 w1 hd
    refine says_k ?_
    simp only [impl_IsGraph.l1]
    refine says_pos (by omega) (says_pos w0 (says_pos (by omega) (says_pos v0 ?_)))
    by_cases h : tb x w = tb (rd l w) v
    · refine says_pos ((bit_eq w0 (by omega) v0 (by omega)).2 h) ?_
      rw [w64 (a := w + 1) (by omega) (by omega)]
      exact says_iff ⟨fun z => ⟨fun b b0 b1 => z.1 b (by omega) b1, z.2⟩, fun z => ⟨fun b b0 b1 => if hb : b = w then by rw [hb]; exact h else z.1 b (by omega) b1, z.2⟩⟩ (ih (w + 1) (by omega) (by omega) (by omega))
    · exact says_neg (fun z => h ((bit_eq w0 (by omega) v0 (by omega)).1 z)) (says_false fun z => h (z.1 w (by omega) (by omega)))
theorem i_is_l0 (d : Nat) : ∀ v : Int, 0 ≤ v → v ≤ n → n - v = d → Says (fun k => impl_IsGraph.l0 k n l n v n l) (∀ a, v ≤ a → a < n → ((0 ≤ rd l a ∧ rd l a < 2 ^ n.toNat) ∧ tb (rd l a) a = false) ∧ ∀ b, 0 ≤ b → b < n → tb (rd l a) b = tb (rd l b) a) := by
  induction d with
  | zero =>
    intro v v0 v1 hd
    refine says_k ?_
    simp only [impl_IsGraph.l0]
    exact says_neg (by omega) (says_true fun a _ _ => by omega)
  | succ d ih =>
    intro v v0 v1 hd
    have hv : v < n := by omega
    have ih := ih (v + 1) (by omega) (by omega) (by omega)
    have bad : ∀ (P : Prop), ¬ P → Says (fun k => impl_IsGraph.j2 k n v (rd l v) l n v true n l) P := fun P hP => by
      refine says_k ?_
      simp only [impl_IsGraph.j2]
      exact says_pos trivial (says_false hP)
    refine says_k ?_
    simp only [impl_IsGraph.l0]
    refine says_pos hv (says_pos v0 (says_pos (by omega) ?_))
    by_cases h0 : rd l v < 0
    · exact says_pos h0 (bad _ fun z => by have := (z v (by omega) hv).1.1; omega)
    · refine says_neg h0 (says_pos (by omega) ?_)
      rw [shl_one (by omega) n2]
      by_cases h1 : rd l v ≥ 2 ^ n.toNat
      · exact says_pos h1 (bad _ fun z => by have := (z v (by omega) hv).1.1; omega)
      · refine says_neg h1 ?_
        rw [bit_is v0 (by omega)]
        cases ht : tb (rd l v) v with
        | true => exact bad _ fun z => by have := (z v (by omega) hv).1.2; rw [ht] at this; cases this
        | false =>
          refine says_k ?_
          simp only [impl_IsGraph.j2]
          refine says_neg (by decide) ?_
          refine says_iff ?_ (i_is_l1 n1 n2 hn v v0 hv (rd l v) n v l _ (by rw [w64 (a := v + 1) (by omega) (by omega)]; exact ih) n.toNat 0 (by omega) (by omega) (by omega))
          exact ⟨fun z => ⟨(z v (by omega) hv).2, fun a a0 a1 => z a (by omega) a1⟩, fun z a a0 a1 => if ha : a = v then by subst ha; exact ⟨⟨by omega, ht⟩, z.1⟩ else z.2 a (by omega) a1⟩
end
theorem s_is (n : Int) (l : List Int) : Says (fun k => spec_l01Is.f k n l) (isG n l) := by
  have bad : ¬ isG n l → Says (fun k => spec_l01Is.j0 k true n l) (isG n l) := fun h => by
    refine says_k ?_
    simp only [spec_l01Is.j0]
    exact says_pos trivial (says_false h)
  unfold spec_l01Is.f
  rw [s_in]
  simp only [Option.bind_some]
  by_cases h1 : 1 ≤ n ∧ n ≤ 62
  · refine says_pos (decide_eq_true h1) ?_
    by_cases h2 : (l.length : Int) = n
    · refine says_k ?_
      simp only [spec_l01Is.j0]
      refine says_neg (by simp [h2]) ?_
      refine says_iff ?_ (s_is_l0 h1.1 h1.2 h2 n.toNat 0 (by omega) (by omega) (by omega))
      constructor
      · exact fun ⟨⟨_, _, _, r⟩, lo, sy⟩ => ⟨fun a a0 a1 => ⟨r a a0 a1, lo a a0 a1⟩, fun a a0 a1 b b0 b1 => sy a b a0 a1 b0 (by omega)⟩
      · intro ⟨z, sy⟩
        refine ⟨⟨h1.1, h1.2, h2, fun a a0 a1 => (z a a0 a1).1⟩, fun a a0 a1 => (z a a0 a1).2, fun a b a0 a1 b0 b1 => ?_⟩
        rcases Int.lt_trichotomy a b with h | h | h
        · exact (sy b b0 b1 a a0 h).symm
        · rw [h]
        · exact sy a a0 a1 b b0 h
    · rw [show ((l.length : Int) != n) = true by simpa using h2]
      exact bad fun z => h2 z.1.2.2.1
  · exact says_neg (by simpa using h1) (bad fun z => h1 ⟨z.1.1, z.1.2.1⟩)
theorem i_is (n : Int) (l : List Int) : Says (fun k => impl_IsGraph.f k n l) (isG n l) := by
  have bad : ¬ isG n l → Says (fun k => impl_IsGraph.j0 k n true n l) (isG n l) := fun h => by
    refine says_k ?_
    simp only [impl_IsGraph.j0]
    exact says_pos trivial (says_false h)
  unfold impl_IsGraph.f
  by_cases h1 : n < 1
  · exact says_pos h1 (bad fun z => by have := z.1.1; omega)
  · refine says_neg h1 ?_
    by_cases h2 : n > 62
    · exact says_pos h2 (bad fun z => by have := z.1.2.1; omega)
    · refine says_neg h2 ?_
      by_cases h3 : (l.length : Int) = n
      · refine says_k ?_
        simp only [impl_IsGraph.j0]
        refine says_neg (by simp [h3]) ?_
        have := i_is_l0 (n := n) (l := l) (by omega) (by omega) h3 n.toNat 0 (by omega) (by omega) (by omega)
        rw [h3]
        refine says_iff ?_ this
        constructor
        · exact fun ⟨⟨_, _, _, r⟩, lo, sy⟩ a a0 a1 => ⟨⟨r a a0 a1, lo a a0 a1⟩, fun b b0 b1 => sy a b a0 a1 b0 b1⟩
        · exact fun z => ⟨⟨by omega, by omega, h3, fun a a0 a1 => (z a a0 a1).1.1⟩, fun a a0 a1 => (z a a0 a1).1.2, fun a b a0 a1 b0 b1 => (z a a0 a1).2 b b0 b1⟩
      · rw [show ((l.length : Int) != n) = true by simpa using h3]
        exact bad fun z => h3 z.1.2.2.1
end Go.Proofs.YtkmpkcofddpdgaaDoor.Q
namespace Go.Proofs.YtkmpkcofddpdgaaDoor.Q
open Go Go.RowKit Go.Proofs.YtkmpkcofddpdgaaDoor.P Go.Proofs.YtkmpkcofddpdgaaDoorW.PrintWords Go.Proofs.YtkmpkcofddpdgaaDoorW.PrintMore
theorem full_rw {n : Int} (n0 : 0 ≤ n) (n2 : n ≤ 62) : Is n (2 ^ n.toNat - 1) (fun _ => True) := by
  have e : ((2 : Int) ^ n.toNat) = ((2 ^ n.toNat : Nat) : Int) := by simp
  have p := two_pow_le n0 n2
  have q : (2 : Int) ^ n.toNat - 1 = ((2 ^ n.toNat - 1 : Nat) : Int) := by
    have : 1 ≤ 2 ^ n.toNat := Nat.one_le_two_pow
    omega
  refine ⟨⟨by omega, by omega⟩, fun u u0 u1 => ⟨fun _ => trivial, fun _ => ?_⟩⟩
  rw [q, tb_toNat (by omega) u0, Int.toNat_natCast, Nat.testBit_two_pow_sub_one]
  exact decide_eq_true (by omega)
theorem i_all {n : Int} (n0 : 0 ≤ n) (n2 : n ≤ 62) : impl_all.f n = some (2 ^ n.toNat - 1) := by
  have p := two_pow_le n0 n2
  unfold impl_all.f
  rw [if_pos n0, shl_one n0 n2, w64 (by omega) (by omega)]
theorem Is.eq {n x y : Int} {P Q : Int → Prop} (n0 : 0 ≤ n) (hx : Is n x P) (hy : Is n y Q) (e : ∀ u, 0 ≤ u → u < n → (P u ↔ Q u)) : x = y :=
  tb_ext hx.1.1 hx.1.2 hy.1.1 hy.1.2 n0 fun i i0 i1 => Bool.eq_iff_iff.2 ((hx.2 i i0 i1).trans ((e i i0 i1).trans (hy.2 i i0 i1).symm))
section
variable {n : Int} {l : List Int} (h : rows n l) {s : Int} (s0 : 0 ≤ s) (s1 : s < n) {r : List Int} (hr : Dist n l s r)
include h hr
theorem i_part_l0 (e : Nat) : ∀ (d : Nat) (S L : Int), (62 : Int) - d = e → Is n S (fun u => 0 ≤ rd r u ∧ rd r u ≤ d) → Is n L (fun u => rd r u = d) → ∃ X, Is n X (fun u => 0 ≤ rd r u) ∧ Ev (fun k => impl_Graph_part.l0 k S L n l) X := by
  have n2 := h.2.1
  have hl := h.2.2.1
  have n0 : 0 ≤ n := by have := h.1; omega
  have stop : ∀ (d : Nat) (S : Int), Is n S (fun u => 0 ≤ rd r u ∧ rd r u ≤ d) → (∀ u, 0 ≤ u → u < n → rd r u ≠ d) → ∃ X, Is n X (fun u => 0 ≤ rd r u) ∧ Ev (fun k => impl_Graph_part.l0 k S 0 n l) X := by
    intro d S hS hno
    refine ⟨S, hS.imp fun u u0 u1 => ?_, ev_k ?_⟩
    · have a := hr.stops d (by omega) hno u u0 u1
      omega
    · simp only [impl_Graph_part.l0]
      exact ev_pos trivial (Ev.now _)
  induction e with
  | zero =>
    intro d S L he hS hL
    have hno : ∀ u, 0 ≤ u → u < n → rd r u ≠ d := fun u u0 u1 => by have := hr.small u u0 u1; omega
    have : L = 0 := (hL.1.eq_zero n0).2 fun w w0 w1 z => hno w w0 w1 ((hL.2 w w0 w1).1 z)
    subst this
    exact stop d S hS hno
  | succ e ih =>
    intro d S L he hS hL
    by_cases hz : L = 0
    · subst hz
      exact stop d S hS fun u u0 u1 z => (hL.1.eq_zero n0).1 rfl u u0 u1 ((hL.2 u u0 u1).2 z)
    · have hp := two_pow_le (n := n) n0 n2
      have inner : ∀ (ws pre : List Int) (X : Int), pre ++ ws = ones L → Is n X (fun u => ∃ w, w ∈ pre ∧ tb (rd l w) u = true) → ∃ Y, Is n Y (fun u => 0 ≤ rd r u) ∧ Ev (fun k => impl_Graph_part.l1 k S X (ones L) (ones L).length pre.length n l) Y := by
        intro ws
        have ol := ones_length L
        have om := fun v => ones_mem n0 n2 hL.1.1 hL.1.2 v
        induction ws with
        | nil =>
          intro pre X hpre hX
          rw [List.append_nil] at hpre
          subst hpre
          have hX2 : Is n X fun u => ∃ w, (0 ≤ w ∧ w < n) ∧ rd r w = d ∧ tb (rd l w) u = true := hX.imp fun u u0 u1 => by
            constructor
            · rintro ⟨w, hw, ht⟩
              obtain ⟨a, b, c⟩ := (om w).1 hw
              exact ⟨w, ⟨a, b⟩, (hL.2 w a b).1 c, ht⟩
            · rintro ⟨w, ⟨a, b⟩, c, ht⟩
              exact ⟨w, (om w).2 ⟨a, b, (hL.2 w a b).2 c⟩, ht⟩
          have o := or_rw n2 hS.1 hX.1
          have q := andNot_rw n2 hX.1 hS.1
          obtain ⟨Y, hY, hE⟩ := ih (d + 1) (bits .or .i64 S X) (bits .andNot .i64 X S) (by omega) ⟨o.1, fun u u0 u1 => by
            rw [o.2 u u0]
            exact ((level_next hr (by omega) hX2 u u0 u1 (hS.2 u u0 u1)).1).trans (by omega)⟩ ⟨q.1, fun u u0 u1 => by
            rw [q.2 u u0]
            exact ((level_next hr (by omega) hX2 u u0 u1 (hS.2 u u0 u1)).2).trans (by omega)⟩
          refine ⟨Y, hY, ev_k ?_⟩
          simp only [impl_Graph_part.l1]
          exact ev_neg (by omega) hE
        | cons w ws ihw =>
          intro pre X hpre hX
          have hlt : pre.length < (ones L).length := by rw [← hpre]; simp
          have hw : rd (ones L) pre.length = w := by
            rw [← hpre]
            simp [rd, List.getD_eq_getElem?_getD]
          obtain ⟨w0, w1, wt⟩ := (om w).1 (by rw [← hpre]; simp)
          have o := or_rw n2 hX.1 (h.2.2.2 w w0 w1)
          obtain ⟨Y, hY, hE⟩ := ihw (pre ++ [w]) (bits .or .i64 X (rd l w)) (by rw [← hpre]; simp) ⟨o.1, fun u u0 u1 => by
            rw [o.2 u u0, hX.2 u u0 u1]
            constructor
            · rintro (⟨x, hx, ht⟩ | ht)
              · exact ⟨x, by simp [hx], ht⟩
              · exact ⟨w, by simp, ht⟩
            · rintro ⟨x, hx, ht⟩
              rcases List.mem_append.1 hx with hx | hx
              · exact .inl ⟨x, hx, ht⟩
              · obtain rfl : x = w := by simpa using hx
                exact .inr ht⟩
          refine ⟨Y, hY, ev_k ?_⟩
          simp only [impl_Graph_part.l1, hw]
          refine ev_pos (by omega) (ev_pos (by omega) (ev_pos (by omega) (ev_pos w0 (ev_pos (by omega) ?_))))
          rw [w64 (a := (pre.length : Int) + 1) (by omega) (by omega)]
          simpa using hE
      obtain ⟨Y, hY, hE⟩ := inner (ones L) [] 0 (by simp) ⟨(zero_rw n).1, fun u u0 u1 => ⟨fun z => absurd z ((zero_rw n).2 u), fun ⟨w, hw, _⟩ => by cases hw⟩⟩
      refine ⟨Y, hY, ev_k ?_⟩
      simp only [impl_Graph_part.l0]
      exact ev_neg hz (Ev.bind (i_list hL.1.1 (by have := hL.1.2; omega)) (by simpa using hE))
include s0 s1
theorem i_part : ∃ X, Is n X (fun u => 0 ≤ rd r u) ∧ Ev (fun k => impl_Graph_part.f k n l s) X := by
  have n2 := h.2.1
  obtain ⟨o1, o2⟩ := one_rw n2 s0 s1
  obtain ⟨X, hX, hE⟩ := i_part_l0 h hr 62 0 (shl .i64 1 s) (shl .i64 1 s) (by omega) ⟨o1, fun u u0 u1 => by
    rw [o2 u u0, ← hr.src u u0 u1]
    omega⟩ ⟨o1, fun u u0 u1 => by
    rw [o2 u u0, ← hr.src u u0 u1]
    omega⟩
  refine ⟨X, hX, ?_⟩
  unfold impl_Graph_part.f
  exact ev_pos s0 hE
end
def joinedG (n : Int) (l : List Int) : Prop := ∀ u, 0 ≤ u → u < n → 0 ≤ rd (dist n l 0) u
theorem i_connected {n : Int} {l : List Int} (h : rows n l) : Says (fun k => impl_Graph_connected.f k n l) (joinedG n l) := by
  have n1 := h.1
  have n2 := h.2.1
  obtain ⟨X, hX, hE⟩ := i_part h (s := 0) (by omega) (by omega) (dist_of n l 0 (by omega))
  unfold impl_Graph_connected.f
  refine says_bind hE ?_
  rw [i_all (by omega) n2]
  simp only [Option.bind_some]
  refine says_iff ?_ (says_now _)
  rw [beq_iff_eq]
  have hf := full_rw (n := n) (by omega) n2
  constructor
  · intro z
    exact hX.eq (by omega) hf fun u u0 u1 => ⟨fun _ => trivial, fun _ => z u u0 u1⟩
  · intro z u u0 u1
    exact (hX.2 u u0 u1).1 (by rw [z]; exact (hf.2 u u0 u1).2 trivial)
theorem s_connected {n : Int} {l : List Int} (h : rows n l) : Says (fun k => spec_l02Connected.f k n l) (joinedG n l) := by
  have n1 := h.1
  have n2 := h.2.1
  have hd := dist_of n l 0 (by omega)
  have hlen := hd.len
  have loop : ∀ (d : Nat) (i : Int), 0 ≤ i → i ≤ n → n - i = d → Says (fun k => spec_l02Connected.l0 k (dist n l 0) i) (∀ u, i ≤ u → u < n → 0 ≤ rd (dist n l 0) u) := by
    intro d
    induction d with
    | zero =>
      intro i i0 i1 hd
      refine says_k ?_
      simp only [spec_l02Connected.l0]
      exact says_neg (by omega) (says_true fun u _ _ => by omega)
    | succ d ih =>
      intro i i0 i1 hd
      refine says_k ?_
      simp only [spec_l02Connected.l0]
      refine says_pos (by omega) (says_pos i0 ?_)
      by_cases z : rd (dist n l 0) i < 0
      · exact says_pos z (says_false fun y => by have := y i (by omega) (by omega); omega)
      · refine says_neg z ?_
        rw [w64 (a := i + 1) (by omega) (by omega)]
        exact says_iff ⟨fun y u u0 u1 => y u (by omega) u1, fun y u u0 u1 => if q : u = i then by rw [q]; omega else y u (by omega) u1⟩ (ih (i + 1) (by omega) (by omega) (by omega))
  unfold spec_l02Connected.f
  exact says_bind (s_from h (by omega) (by omega) hd) (loop n.toNat 0 (by omega) (by omega) (by omega))
theorem connCodes (n : Int) (l : List Int) : ∃ c, Ev (fun k => spec_l06Code.f k n l) c ∧ Ev (fun k => impl_connectedCode.f k n l) c ∧ (c = 0 ↔ isG n l ∧ joinedG n l) := by
  unfold spec_l06Code.f impl_connectedCode.f
  by_cases hg : isG n l
  · by_cases hc : joinedG n l
    · exact ⟨0, Ev.bind ((s_is n l).yes hg) (ev_pos rfl (Ev.bind ((s_connected hg.1).yes hc) (ev_pos rfl (Ev.now _)))), Ev.bind ((i_is n l).yes hg) (ev_pos rfl (Ev.bind ((i_connected hg.1).yes hc) (ev_pos rfl (Ev.now _)))), by simp [hg, hc]⟩
    · exact ⟨5, Ev.bind ((s_is n l).yes hg) (ev_pos rfl (Ev.bind ((s_connected hg.1).no hc) (ev_neg (by decide) (Ev.now _)))), Ev.bind ((i_is n l).yes hg) (ev_pos rfl (Ev.bind ((i_connected hg.1).no hc) (ev_neg (by decide) (Ev.now _)))), by simp [hc]⟩
  · exact ⟨1, Ev.bind ((s_is n l).no hg) (ev_neg (by decide) (Ev.now _)), Ev.bind ((i_is n l).no hg) (ev_neg (by decide) (Ev.now _)), by simp [hg]⟩
end Go.Proofs.YtkmpkcofddpdgaaDoor.Q
namespace Go.Proofs.YtkmpkcofddpdgaaDoor.Q
open Go Go.RowKit Go.Proofs.YtkmpkcofddpdgaaDoor.P Go.Proofs.YtkmpkcofddpdgaaDoorW.PrintWords Go.Proofs.YtkmpkcofddpdgaaDoorW.PrintMore
def anti (n : Int) (l : List Int) : Prop := 2 ≤ diam n l ∧ ∀ v x y, (0 ≤ v ∧ v < n) → (0 ≤ x ∧ x < n) → (0 ≤ y ∧ y < x) → rd (dist n l v) x = diam n l → rd (dist n l v) y = diam n l → rd (dist n l x) y = diam n l
theorem anti_near {n : Int} {l : List Int} (h : isG n l) : anti n l ↔ 2 ≤ diam n l ∧ ∀ v x y, (0 ≤ v ∧ v < n) → (0 ≤ x ∧ x < n) → (0 ≤ y ∧ y < n) → x ≠ y → near n l (diam n l) v x → near n l (diam n l) v y → near n l (diam n l) x y := by
  unfold anti
  constructor
  · rintro ⟨d2, z⟩
    refine ⟨d2, fun v x y hv hx hy hne nx ny => ?_⟩
    rcases Int.lt_or_gt_of_ne hne with q | q
    · refine (near_sym h _ hx.1 hx.2 hy.1 hy.2).2 ?_
      have := z v y x hv hy ⟨hx.1, q⟩ ny.2 nx.2
      exact ⟨by omega, this⟩
    · have := z v x y hv hx ⟨hy.1, q⟩ nx.2 ny.2
      exact ⟨by omega, this⟩
  · rintro ⟨d2, z⟩
    refine ⟨d2, fun v x y hv hx hy nx ny => (z v x y hv hx ⟨hy.1, by omega⟩ (by omega) ⟨by omega, nx⟩ ⟨by omega, ny⟩).2⟩
section
variable {n : Int} {l : List Int} (h : isG n l)
include h
theorem s_anti : Says (fun k => spec_l06Antipodal.f k n l) (anti n l) := by
  have n1 := h.1.1
  have n2 := h.1.2.1
  have hlen := dists_length n l n.toNat
  obtain ⟨b, hb⟩ := s_diameter h.1
  unfold spec_l06Antipodal.f
  refine says_bind (s_rows h.1) (says_bind hb ?_)
  by_cases d2 : diam n l < 2
  · exact says_pos d2 (says_false fun z => by have := z.1; omega)
  · refine says_neg d2 (says_iff (R := ∀ v x y, (0 ≤ v ∧ v < n) → (0 ≤ x ∧ x < n) → (0 ≤ y ∧ y < x) → rd (dist n l v) x = diam n l → rd (dist n l v) y = diam n l → rd (dist n l x) y = diam n l) ⟨fun z => z.2, fun z => ⟨by omega, z⟩⟩ ?_)
    have l0 : ∀ (d : Nat) (v : Int), 0 ≤ v → v ≤ n → n - v = d → Says (fun k => spec_l06Antipodal.l0 k (dists n l n.toNat) (diam n l) v) (∀ w x y, (v ≤ w ∧ w < n) → (0 ≤ x ∧ x < n) → (0 ≤ y ∧ y < x) → rd (dist n l w) x = diam n l → rd (dist n l w) y = diam n l → rd (dist n l x) y = diam n l) := by
      intro d
      induction d with
      | zero =>
        intro v v0 v1 hd
        refine says_k ?_
        simp only [spec_l06Antipodal.l0]
        exact says_neg (by omega) (says_true fun w x y hw => by omega)
      | succ d ih =>
        intro v v0 v1 hd
        have hv := rd_dists l v0 (by omega : v < n)
        have hvl := (dist_of n l v (by omega)).len
        have l1 : ∀ (e : Nat) (x : Int), 0 ≤ x → x ≤ n → n - x = e → Says (fun k => spec_l06Antipodal.l1 k (dists n l n.toNat) (diam n l) v x) ((∀ x' y, (x ≤ x' ∧ x' < n) → (0 ≤ y ∧ y < x') → rd (dist n l v) x' = diam n l → rd (dist n l v) y = diam n l → rd (dist n l x') y = diam n l) ∧ ∀ w x y, (v + 1 ≤ w ∧ w < n) → (0 ≤ x ∧ x < n) → (0 ≤ y ∧ y < x) → rd (dist n l w) x = diam n l → rd (dist n l w) y = diam n l → rd (dist n l x) y = diam n l) := by
          intro e
          induction e with
          | zero =>
            intro x x0 x1 he
            refine says_k ?_
            simp only [spec_l06Antipodal.l1]
            refine says_neg (by omega) ?_
            rw [w64 (a := v + 1) (by omega) (by omega)]
            exact says_iff ⟨fun z => z.2, fun z => ⟨fun x' y hx => by omega, z⟩⟩ (ih (v + 1) (by omega) (by omega) (by omega))
          | succ e ihe =>
            intro x x0 x1 he
            have hx := rd_dists l x0 (by omega : x < n)
            have hxl := (dist_of n l x (by omega)).len
            have l2 : ∀ (c : Nat) (y : Int), 0 ≤ y → y ≤ x → x - y = c → Says (fun k => spec_l06Antipodal.l2 k (dists n l n.toNat) (diam n l) v x y) ((∀ y', (y ≤ y' ∧ y' < x) → rd (dist n l v) x = diam n l → rd (dist n l v) y' = diam n l → rd (dist n l x) y' = diam n l) ∧ (∀ x' y, (x + 1 ≤ x' ∧ x' < n) → (0 ≤ y ∧ y < x') → rd (dist n l v) x' = diam n l → rd (dist n l v) y = diam n l → rd (dist n l x') y = diam n l) ∧ ∀ w x y, (v + 1 ≤ w ∧ w < n) → (0 ≤ x ∧ x < n) → (0 ≤ y ∧ y < x) → rd (dist n l w) x = diam n l → rd (dist n l w) y = diam n l → rd (dist n l x) y = diam n l) := by
              intro c
              induction c with
              | zero =>
                intro y y0 y1 hc
                refine says_k ?_
                simp only [spec_l06Antipodal.l2]
                refine says_neg (by omega) ?_
                rw [w64 (a := x + 1) (by omega) (by omega)]
                exact says_iff ⟨fun z => z.2, fun z => ⟨fun y' hy => by omega, z⟩⟩ (ihe (x + 1) (by omega) (by omega) (by omega))
              | succ c ihc =>
                intro y y0 y1 hc
                have next := ihc (y + 1) (by omega) (by omega) (by omega)
                have same : (rd (dist n l v) x = diam n l → rd (dist n l v) y = diam n l → rd (dist n l x) y = diam n l) → ((∀ y', (y ≤ y' ∧ y' < x) → rd (dist n l v) x = diam n l → rd (dist n l v) y' = diam n l → rd (dist n l x) y' = diam n l) ↔ (∀ y', (y + 1 ≤ y' ∧ y' < x) → rd (dist n l v) x = diam n l → rd (dist n l v) y' = diam n l → rd (dist n l x) y' = diam n l)) := fun q => ⟨fun z y' hy => z y' (by omega), fun z y' hy => if e : y' = y then by rw [e]; exact q else z y' (by omega)⟩
                refine says_k ?_
                simp only [spec_l06Antipodal.l2]
                rw [hv, hx, w64 (a := y + 1) (by omega) (by omega)]
                refine says_pos (by omega) (says_pos v0 (says_pos (by omega) (says_pos x0 (says_pos (by omega) ?_))))
                by_cases z1 : rd (dist n l v) x = diam n l
                · refine says_pos z1 (says_pos y0 (says_pos (by omega) ?_))
                  by_cases z2 : rd (dist n l v) y = diam n l
                  · refine says_pos z2 (says_pos (by omega) (says_pos (by omega) ?_))
                    by_cases z3 : rd (dist n l x) y = diam n l
                    · exact says_pos z3 (says_iff (and_congr (same fun _ _ => z3) Iff.rfl) next)
                    · exact says_neg z3 (says_false fun q => z3 (q.1 y ⟨Int.le_refl _, by omega⟩ z1 z2))
                  · exact says_neg z2 (says_iff (and_congr (same fun _ q => absurd q z2) Iff.rfl) next)
                · exact says_neg z1 (says_iff (and_congr (same fun q => absurd q z1) Iff.rfl) next)
            refine says_k ?_
            simp only [spec_l06Antipodal.l1]
            refine says_pos (by omega) (says_iff ⟨fun z => ⟨fun y' hy => z.1 x y' (by omega) (by omega), fun x' y hx' => z.1 x' y (by omega), z.2⟩, fun z => ⟨fun x' y hx' hy => ?_, z.2.2⟩⟩ (l2 x.toNat 0 (by omega) (by omega) (by omega)))
            by_cases q : x' = x
            · rw [q]
              exact z.1 y (by omega)
            · exact z.2.1 x' y (by omega) hy
        refine says_k ?_
        simp only [spec_l06Antipodal.l0]
        refine says_pos (by omega) (says_iff ⟨fun z => ⟨fun x y hx hy => z v x y (by omega) hx hy, fun w x y hw => z w x y (by omega)⟩, fun z w x y hw hx hy => ?_⟩ (l1 n.toNat 0 (by omega) (by omega) (by omega)))
        by_cases q : w = v
        · rw [q]
          exact z.1 x y hx hy
        · exact z.2 w x y (by omega) hx hy
    exact l0 n.toNat 0 (by omega) (by omega) (by omega)
end
end Go.Proofs.YtkmpkcofddpdgaaDoor.Q
namespace Go.Proofs.YtkmpkcofddpdgaaDoor.Q
open Go Go.RowKit Go.Proofs.YtkmpkcofddpdgaaDoor.P Go.Proofs.YtkmpkcofddpdgaaDoorW.PrintWords Go.Proofs.YtkmpkcofddpdgaaDoorW.PrintMore
theorem onesFrom_asc (x : Nat) (d : Nat) : ∀ m, (onesFrom x d m).Pairwise (· < ·) := by
  induction d with
  | zero => intro m; exact List.Pairwise.nil
  | succ d ih =>
    intro m
    simp only [onesFrom]
    split
    · refine List.pairwise_cons.2 ⟨fun v hv => ?_, ih (m + 1)⟩
      obtain ⟨i, rfl, h1, _⟩ := (onesFrom_mem x d (m + 1) v).1 hv
      omega
    · exact ih (m + 1)
theorem ones_asc (x : Int) : (ones x).Pairwise (· < ·) := onesFrom_asc _ 62 0
theorem ones_first {n x : Int} {P : Int → Prop} (n0 : 0 ≤ n) (n2 : n ≤ 62) (h : Is n x P) (hx : x ≠ 0) : 0 < (ones x).length ∧ (0 ≤ rd (ones x) 0 ∧ rd (ones x) 0 < n) ∧ P (rd (ones x) 0) ∧ ∀ u, 0 ≤ u → u < n → P u → rd (ones x) 0 ≤ u := by
  have om := fun v => ones_mem n0 n2 h.1.1 h.1.2 v
  have ha := ones_asc x
  cases hl : ones x with
  | nil =>
    refine absurd ((h.1.eq_zero n0).2 fun w w0 w1 t => ?_) hx
    have := (om w).2 ⟨w0, w1, t⟩
    rw [hl] at this
    cases this
  | cons a zs =>
    have e : rd (a :: zs) 0 = a := rfl
    rw [hl] at ha om
    obtain ⟨a0, a1, at_⟩ := (om a).1 (by simp)
    rw [e]
    refine ⟨by simp, ⟨a0, a1⟩, (h.2 a a0 a1).1 at_, fun u u0 u1 hu => ?_⟩
    rcases List.mem_cons.1 ((om u).2 ⟨u0, u1, (h.2 u u0 u1).2 hu⟩) with q | q
    · omega
    · have := (List.pairwise_cons.1 ha).1 u q
      omega
def Rc (n : Int) (l : List Int) (u v : Int) : Prop := 0 ≤ rd (dist n l u) v
theorem Rc_iff {n : Int} {l : List Int} (n0 : 0 ≤ n) {u v : Int} (v0 : 0 ≤ v) (v1 : v < n) : Rc n l u v ↔ ∃ k, Wk n l u k v := by
  unfold Rc
  rcases (distL n l u n0).2 v v0 v1 with ⟨e, h⟩ | ⟨d, e, h⟩
  · rw [e]
    exact ⟨fun z => by omega, fun ⟨k, hk⟩ => absurd hk (h k)⟩
  · rw [e]
    exact ⟨fun _ => ⟨d, h.1⟩, fun _ => by omega⟩
theorem Wk.join {n : Int} {l : List Int} {u v : Int} {k : Nat} (h : Wk n l u k v) : ∀ (j : Nat) (w : Int), Wk n l v j w → Wk n l u (k + j) w := by
  intro j
  induction j with
  | zero => intro w hw; cases hw; exact h
  | succ j ih =>
    rintro w ⟨hw, x, hx, hj, ht⟩
    exact ⟨hw, x, hx, ih x hj, ht⟩
theorem Rc.refl {n : Int} {l : List Int} {v : Int} (v0 : 0 ≤ v) (v1 : v < n) : Rc n l v v := (Rc_iff (by omega) v0 v1).2 ⟨0, rfl⟩
theorem Rc.trans {n : Int} {l : List Int} {u v w : Int} (v0 : 0 ≤ v) (v1 : v < n) (w0 : 0 ≤ w) (w1 : w < n) (h : Rc n l u v) (g : Rc n l v w) : Rc n l u w := by
  obtain ⟨k, hk⟩ := (Rc_iff (by omega) v0 v1).1 h
  obtain ⟨j, hj⟩ := (Rc_iff (by omega) w0 w1).1 g
  exact (Rc_iff (by omega) w0 w1).2 ⟨_, hk.join j w hj⟩
theorem Rc.symm {n : Int} {l : List Int} (h : isG n l) {u v : Int} (u0 : 0 ≤ u) (u1 : u < n) (v0 : 0 ≤ v) (v1 : v < n) (g : Rc n l u v) : Rc n l v u := by
  unfold Rc at *
  rw [dist_sym h v0 v1 u0 u1]
  exact g
open Classical in
noncomputable def leads (P : Int → Prop) : Nat → List Int
  | 0 => []
  | t + 1 => if P t then leads P t ++ [(t : Int)] else leads P t
theorem leads_mem (P : Int → Prop) (t : Nat) : ∀ x : Int, x ∈ leads P t ↔ (0 ≤ x ∧ x < t) ∧ P x := by
  induction t with
  | zero => intro x; simp [leads]; intro a b; omega
  | succ t ih =>
    intro x
    simp only [leads]
    by_cases h : P t
    · rw [if_pos h, List.mem_append, ih, List.mem_singleton]
      constructor
      · rintro (⟨a, b⟩ | rfl)
        · exact ⟨by omega, b⟩
        · exact ⟨by omega, h⟩
      · rintro ⟨a, b⟩
        by_cases e : x = t
        · exact .inr e
        · exact .inl ⟨by omega, b⟩
    · rw [if_neg h, ih]
      constructor
      · rintro ⟨a, b⟩
        exact ⟨by omega, b⟩
      · rintro ⟨a, b⟩
        by_cases e : x = t
        · rw [e] at b
          exact absurd b h
        · exact ⟨by omega, b⟩
theorem leads_length (P : Int → Prop) (t : Nat) : (leads P t).length ≤ t := by
  induction t with
  | zero => simp [leads]
  | succ t ih =>
    simp only [leads]
    split
    · simp
      omega
    · omega
theorem leads_stay (P : Int → Prop) (t d : Nat) (h : ∀ w : Nat, t ≤ w → w < t + d → ¬ P w) : leads P (t + d) = leads P t := by
  induction d with
  | zero => rfl
  | succ d ih =>
    rw [← Nat.add_assoc]
    simp only [leads]
    rw [if_neg (h (t + d) (by omega) (by omega)), ih fun w w0 w1 => h w w0 (by omega)]
def Lead (n : Int) (l : List Int) (v : Int) : Prop := ∀ u, 0 ≤ u → u < v → ¬ Rc n l u v
open Classical in
noncomputable def pset (n : Int) (l : List Int) (p : Int) : Int := if h : ∃ X, Is n X (Rc n l p) then h.choose else 0
theorem pset_is {n : Int} {l : List Int} (h : rows n l) {p : Int} (p0 : 0 ≤ p) (p1 : p < n) : Is n (pset n l p) (Rc n l p) ∧ Ev (fun k => impl_Graph_part.f k n l p) (pset n l p) := by
  have n1 := h.1
  obtain ⟨X, hX, hE⟩ := i_part h p0 p1 (dist_of n l p (by omega))
  have hex : ∃ X, Is n X (Rc n l p) := ⟨X, hX⟩
  have e : pset n l p = X := by
    unfold pset
    rw [dif_pos hex]
    exact hex.choose_spec.eq (by omega) hX fun u u0 u1 => Iff.rfl
  rw [e]
  exact ⟨hX, hE⟩
noncomputable def clss (n : Int) (l ps : List Int) : List (List Int) := ps.map fun p => ones (pset n l p)
theorem i_parts {n : Int} {l : List Int} (h : isG n l) : Ev (fun k => impl_Graph_parts.f k n l) (clss n l (leads (Lead n l) n.toNat)) := by
  have n1 := h.1.1
  have n2 := h.1.2.1
  have n0 : 0 ≤ n := by omega
  have loop : ∀ (e t : Nat) (left : Int), (t : Int) ≤ n → n - t ≤ e → Is n left (fun u => ∀ p ∈ leads (Lead n l) t, ¬ Rc n l p u) → (∀ u : Int, 0 ≤ u → u < t → ∃ p ∈ leads (Lead n l) t, Rc n l p u) → Ev (fun k => impl_Graph_parts.l0 k (clss n l (leads (Lead n l) t)) left n l) (clss n l (leads (Lead n l) n.toNat)) := by
    have notlead : ∀ (t w : Nat), t ≤ w → (w : Int) < n → (∃ p ∈ leads (Lead n l) t, Rc n l p w) → ¬ Lead n l w := by
      rintro t w hw hn ⟨p, hp, hr⟩ hL
      have := ((leads_mem _ t p).1 hp).1
      exact hL p this.1 (by omega) hr
    intro e
    induction e with
    | zero =>
      intro t left ht he hl hc
      have : left = 0 := (hl.1.eq_zero n0).2 fun w w0 w1 z => by
        obtain ⟨p, hp, hr⟩ := hc w w0 (by omega)
        exact (hl.2 w w0 w1).1 z p hp hr
      subst this
      refine ev_k ?_
      simp only [impl_Graph_parts.l0]
      refine ev_pos trivial (ev_some ?_)
      rw [show t = n.toNat by omega]
    | succ e ih =>
      intro t left ht he hl hc
      by_cases hz : left = 0
      · subst hz
        have cov : ∀ w : Nat, (w : Int) < n → ∃ p ∈ leads (Lead n l) t, Rc n l p w := fun w hw => by
          have q := mt (hl.2 w (by omega) hw).2 ((zero_rw n).2 w)
          exact Classical.byContradiction fun z => q fun p hp hr => z ⟨p, hp, hr⟩
        have := leads_stay (Lead n l) t (n.toNat - t) fun w w0 w1 => notlead t w w0 (by omega) (cov w (by omega))
        rw [show t + (n.toNat - t) = n.toNat by omega] at this
        rw [this]
        refine ev_k ?_
        simp only [impl_Graph_parts.l0]
        exact ev_pos trivial (Ev.now _)
      · obtain ⟨hpos, ⟨v0, v1⟩, hv, hleast⟩ := ones_first n0 n2 hl hz
        have hp := two_pow_le (n := n) n0 n2
        generalize hve : rd (ones left) 0 = v at *
        obtain ⟨hps, hpe⟩ := pset_is h.1 v0 v1
        have hle : (t : Int) ≤ v := by
          refine Classical.byContradiction fun z => ?_
          obtain ⟨p, hp, hr⟩ := hc v v0 (by omega)
          exact hv p hp hr
        have cov : ∀ u, 0 ≤ u → u < v → ∃ p ∈ leads (Lead n l) t, Rc n l p u := fun u u0 u1 =>
          Classical.byContradiction fun z => by
            have := hleast u u0 (by omega) fun p hp hr => z ⟨p, hp, hr⟩
            omega
        have hlv : Lead n l v := fun u u0 u1 hr => by
          obtain ⟨p, hp, hr2⟩ := cov u u0 u1
          exact hv p hp (Rc.trans u0 (by omega) v0 v1 hr2 hr)
        have e1 : leads (Lead n l) v.toNat = leads (Lead n l) t := by
          have := leads_stay (Lead n l) t (v.toNat - t) fun w w0 w1 => notlead t w w0 (by omega) (cov w (by omega) (by omega))
          rwa [show t + (v.toNat - t) = v.toNat by omega] at this
        have e2 : leads (Lead n l) (v.toNat + 1) = leads (Lead n l) t ++ [v] := by
          simp only [leads]
          rw [show ((v.toNat : Nat) : Int) = v by omega, if_pos hlv, e1]
        have q := andNot_rw n2 hl.1 hps.1
        have := ih (v.toNat + 1) (bits .andNot .i64 left (pset n l v)) (by omega) (by omega) ⟨q.1, fun u u0 u1 => by
          rw [q.2 u u0, hl.2 u u0 u1, hps.2 u u0 u1, e2]
          constructor
          · rintro ⟨a, b⟩ p hp
            rcases List.mem_append.1 hp with hp | hp
            · exact a p hp
            · rw [List.mem_singleton.1 hp]; exact b
          · intro z
            exact ⟨fun p hp => z p (by simp [hp]), z v (by simp)⟩⟩ (fun u u0 u1 => by
          rw [e2]
          by_cases z : u = v
          · exact ⟨v, by simp, by rw [z]; exact Rc.refl v0 v1⟩
          · obtain ⟨p, hp, hr⟩ := cov u u0 (by omega)
            exact ⟨p, by simp [hp], hr⟩)
        rw [e2] at this
        have hll := leads_length (Lead n l) t
        refine ev_k ?_
        simp only [impl_Graph_parts.l0]
        refine ev_neg hz (Ev.bind (i_list hl.1.1 (by have := hl.1.2; omega)) (ev_pos (by omega) ?_))
        rw [hve]
        refine Ev.bind hpe (Ev.bind (i_list hps.1.1 (by have := hps.1.2; omega)) (ev_pos (by simp [clss]; omega) ?_))
        simpa [clss] using this
  unfold impl_Graph_parts.f
  refine ev_bind0 (i_all n0 n2) (loop n.toNat 0 _ (by omega) (by omega) ((full_rw n0 n2).imp fun u u0 u1 => ⟨fun _ p hp => by simp [leads] at hp, fun _ => trivial⟩) (fun u u0 u1 => by omega))
end Go.Proofs.YtkmpkcofddpdgaaDoor.Q
namespace Go.Proofs.YtkmpkcofddpdgaaDoor.Q
open Go Go.RowKit Go.Proofs.YtkmpkcofddpdgaaDoor.P Go.Proofs.YtkmpkcofddpdgaaDoorW.PrintWords Go.Proofs.YtkmpkcofddpdgaaDoorW.PrintMore
theorem mx_isG {n : Int} {m : List Int} {P : Int → Int → Prop} (h : Mx n m P) (n1 : 1 ≤ n) (n2 : n ≤ 62) (ir : ∀ v, 0 ≤ v → v < n → ¬ P v v) (sy : ∀ v w, 0 ≤ v → v < n → 0 ≤ w → w < n → P v w → P w v) : isG n m := by
  refine ⟨h.rows n1 n2, fun v v0 v1 => ?_, fun v w v0 v1 w0 w1 => ?_⟩
  · have := (h.2 v v0 v1).2 v v0 v1
    have q := ir v v0 v1
    cases hb : tb (rd m v) v with
    | false => rfl
    | true => exact absurd (this.1 hb) q
  · exact Bool.eq_iff_iff.2 (((h.2 v v0 v1).2 w w0 w1).trans (Iff.trans ⟨sy v w v0 v1 w0 w1, sy w v w0 w1 v0 v1⟩ ((h.2 w w0 w1).2 v v0 v1).symm))
section
variable {n : Int} {l : List Int} (h : isG n l)
def alike (n : Int) (l : List Int) (v w : Int) : Prop := ∀ u, 0 ≤ u → u < n → ((near n l (diam n l) v u ∨ u = v) ↔ (near n l (diam n l) w u ∨ u = w))
include h
theorem alike_anti (d2 : 2 ≤ diam n l) : (∀ v, 0 ≤ v → v < n → ∀ w, 0 ≤ w → w < n → near n l (diam n l) v w → alike n l v w) ↔ anti n l := by
  rw [anti_near h]
  constructor
  · intro z
    refine ⟨d2, fun v x y hv hx hy hne nx ny => ?_⟩
    rcases (z v hv.1 hv.2 x hx.1 hx.2 nx y hy.1 hy.2).1 (.inl ny) with q | q
    · exact q
    · exact absurd q.symm hne
  · rintro ⟨_, z⟩ v v0 v1 w w0 w1 nw u u0 u1
    constructor
    · rintro (nu | rfl)
      · by_cases q : u = w
        · exact .inr q
        · exact .inl (z v w u ⟨v0, v1⟩ ⟨w0, w1⟩ ⟨u0, u1⟩ (fun e => q e.symm) nw nu)
      · exact .inl ((near_sym h _ v0 v1 w0 w1).1 nw)
    · rintro (nu | rfl)
      · by_cases q : u = v
        · exact .inr q
        · exact .inl (z w v u ⟨w0, w1⟩ ⟨v0, v1⟩ ⟨u0, u1⟩ (fun e => q e.symm) ((near_sym h _ v0 v1 w0 w1).1 nw) nu)
      · exact .inl nw
open Classical in
theorem i_fibres : ∃ m, Mx n m (near n l (diam n l)) ∧ (2 ≤ diam n l → isG n m) ∧ Ev (fun k => impl_Graph_fibres.f k n l) (if anti n l then (clss n m (leads (Lead n m) n.toNat), true) else ([], false)) := by
  have n1 := h.1.1
  have n2 := h.1.2.1
  have n0 : 0 ≤ n := by omega
  have hel := eccs_length n l n.toNat
  obtain ⟨D, hD, hmax⟩ := r_max (eccs n l n.toNat) (by omega) (by omega)
  have eD : D = diam n l := hmax.uniq (diam_max l n1 n2)
  rw [eD] at hD
  by_cases d2 : diam n l < 2
  · have hna : ¬ anti n l := fun z => by have := z.1; omega
    have hmx : ∃ m, Mx n m (near n l (diam n l)) := by
      by_cases q : 1 ≤ diam n l
      · obtain ⟨m, hm, _⟩ := i_at h (diam n l) q
        exact ⟨m, hm⟩
      · exact ⟨_, (Mx.zero n n0).imp fun v w _ _ _ _ => ⟨False.elim, fun z => by have := z.1; have := z.2; omega⟩⟩
    obtain ⟨m, hm⟩ := hmx
    refine ⟨m, hm, fun z => by omega, ?_⟩
    rw [if_neg hna]
    unfold impl_Graph_fibres.f
    exact Ev.bind (i_reaches h.1) (Ev.bind hD (ev_pos d2 (Ev.now _)))
  · obtain ⟨m, hm, hat⟩ := i_at h (diam n l) (by omega)
    have hmg : isG n m := mx_isG hm n1 n2 (fun v v0 v1 z => near_ne _ v0 v1 z rfl) (fun v w v0 v1 w0 w1 z => (near_sym h _ v0 v1 w0 w1).1 z)
    refine ⟨m, hm, fun _ => hmg, ?_⟩
    have hml := hm.1
    have rowIs : ∀ v, 0 ≤ v → v < n → Is n (bits .or .i64 (rd m v) (shl .i64 1 v)) (fun u => near n l (diam n l) v u ∨ u = v) := fun v v0 v1 => by
      have o := or_rw n2 (hm.2 v v0 v1).1 (one_rw n2 v0 v1).1
      exact ⟨o.1, fun u u0 u1 => by rw [o.2 u u0, (one_rw n2 v0 v1).2 u u0, (hm.2 v v0 v1).2 u u0 u1]⟩
    have same : ∀ v w, 0 ≤ v → v < n → 0 ≤ w → w < n → (bits .or .i64 (rd m v) (shl .i64 1 v) = bits .or .i64 (rd m w) (shl .i64 1 w) ↔ alike n l v w) := fun v w v0 v1 w0 w1 => by
      constructor
      · intro e u u0 u1
        exact ((rowIs v v0 v1).2 u u0 u1).symm.trans ((Iff.of_eq (by rw [e])).trans ((rowIs w w0 w1).2 u u0 u1))
      · exact fun e => (rowIs v v0 v1).eq n0 (rowIs w w0 w1) e
    have hp := two_pow_le (n := n) n0 n2
    have loop : ∀ (d : Nat) (v : Int), 0 ≤ v → v ≤ n → n - v = d → Ev (fun k => impl_Graph_fibres.l0 k n v n m) (if ∀ a, v ≤ a → a < n → ∀ w, 0 ≤ w → w < n → near n l (diam n l) a w → alike n l a w then (clss n m (leads (Lead n m) n.toNat), true) else ([], false)) := by
      intro d
      induction d with
      | zero =>
        intro v v0 v1 hd
        rw [if_pos (fun a a0 a1 => by omega)]
        refine ev_k ?_
        simp only [impl_Graph_fibres.l0]
        exact ev_neg (by omega) (Ev.bind (i_parts hmg) (Ev.now _))
      | succ d ih =>
        intro v v0 v1 hd
        have hI := hm.2 v v0 (by omega)
        have om := fun u => ones_mem n0 n2 hI.1.1 hI.1.2 u
        have ol := ones_length (rd m v)
        have inner : ∀ (e : Nat) (j : Int), 0 ≤ j → j ≤ (ones (rd m v)).length → (ones (rd m v)).length - j = e → Ev (fun k => impl_Graph_fibres.l1 k v n v (ones (rd m v)) ((ones (rd m v)).length : Int) j n m) (if (∀ i, j ≤ i → i < (ones (rd m v)).length → alike n l v (rd (ones (rd m v)) i)) ∧ ∀ a, v + 1 ≤ a → a < n → ∀ w, 0 ≤ w → w < n → near n l (diam n l) a w → alike n l a w then (clss n m (leads (Lead n m) n.toNat), true) else ([], false)) := by
          intro e
          induction e with
          | zero =>
            intro j j0 j1 he
            have := ih (v + 1) (by omega) (by omega) (by omega)
            refine ev_k ?_
            simp only [impl_Graph_fibres.l1]
            rw [w64 (a := v + 1) (by omega) (by omega)]
            refine ev_neg (by omega) ?_
            have e : ((∀ i, j ≤ i → i < ((ones (rd m v)).length : Int) → alike n l v (rd (ones (rd m v)) i)) ∧ ∀ a, v + 1 ≤ a → a < n → ∀ w, 0 ≤ w → w < n → near n l (diam n l) a w → alike n l a w) ↔ ∀ a, v + 1 ≤ a → a < n → ∀ w, 0 ≤ w → w < n → near n l (diam n l) a w → alike n l a w := ⟨fun z => z.2, fun z => ⟨fun i i0 i1 => by omega, z⟩⟩
            by_cases z : ∀ a, v + 1 ≤ a → a < n → ∀ w, 0 ≤ w → w < n → near n l (diam n l) a w → alike n l a w
            · rw [if_pos z] at this
              rw [if_pos (e.2 z)]
              exact this
            · rw [if_neg z] at this
              rw [if_neg (fun y => z (e.1 y))]
              exact this
          | succ e ihe =>
            intro j j0 j1 he
            obtain ⟨w0, w1, wt⟩ := (om _).1 (rd_mem' j0 (by omega : j < (ones (rd m v)).length))
            have := ihe (j + 1) (by omega) (by omega) (by omega)
            have hs := same v _ v0 (by omega) w0 w1
            refine ev_k ?_
            simp only [impl_Graph_fibres.l1]
            rw [w64 (a := j + 1) (by omega) (by omega)]
            refine ev_pos (by omega) (ev_pos j0 (ev_pos (by omega) (ev_pos v0 (ev_pos (by omega) (ev_pos w0 (ev_pos (by omega) ?_))))))
            by_cases q : bits .or .i64 (rd m v) (shl .i64 1 v) = bits .or .i64 (rd m (rd (ones (rd m v)) j)) (shl .i64 1 (rd (ones (rd m v)) j))
            · refine ev_pos q ?_
              have e : ((∀ i, j ≤ i → i < ((ones (rd m v)).length : Int) → alike n l v (rd (ones (rd m v)) i)) ∧ ∀ a, v + 1 ≤ a → a < n → ∀ w, 0 ≤ w → w < n → near n l (diam n l) a w → alike n l a w) ↔ ((∀ i, j + 1 ≤ i → i < ((ones (rd m v)).length : Int) → alike n l v (rd (ones (rd m v)) i)) ∧ ∀ a, v + 1 ≤ a → a < n → ∀ w, 0 ≤ w → w < n → near n l (diam n l) a w → alike n l a w) := and_congr ⟨fun z i i0 i1 => z i (by omega) i1, fun z i i0 i1 => if y : i = j then by rw [y]; exact hs.1 q else z i (by omega) i1⟩ Iff.rfl
              by_cases z : (∀ i, j + 1 ≤ i → i < ((ones (rd m v)).length : Int) → alike n l v (rd (ones (rd m v)) i)) ∧ ∀ a, v + 1 ≤ a → a < n → ∀ w, 0 ≤ w → w < n → near n l (diam n l) a w → alike n l a w
              · rw [if_pos z] at this
                rw [if_pos (e.2 z)]
                exact this
              · rw [if_neg z] at this
                rw [if_neg (fun y => z (e.1 y))]
                exact this
            · rw [if_neg fun z => q (hs.2 (z.1 j (Int.le_refl _) (by omega)))]
              exact ev_neg q (Ev.now _)
        have := inner (ones (rd m v)).length 0 (by omega) (by omega) (by omega)
        refine ev_k ?_
        simp only [impl_Graph_fibres.l0]
        refine ev_pos (by omega) (ev_pos v0 (ev_pos (by omega) (Ev.bind (i_list hI.1.1 (by have := hI.1.2; omega)) ?_)))
        have e : (∀ a, v ≤ a → a < n → ∀ w, 0 ≤ w → w < n → near n l (diam n l) a w → alike n l a w) ↔ ((∀ i, 0 ≤ i → i < ((ones (rd m v)).length : Int) → alike n l v (rd (ones (rd m v)) i)) ∧ ∀ a, v + 1 ≤ a → a < n → ∀ w, 0 ≤ w → w < n → near n l (diam n l) a w → alike n l a w) := by
          constructor
          · intro z
            refine ⟨fun i i0 i1 => ?_, fun a a0 a1 => z a (by omega) a1⟩
            obtain ⟨w0, w1, wt⟩ := (om _).1 (rd_mem' i0 i1)
            exact z v (Int.le_refl _) (by omega) _ w0 w1 ((hI.2 _ w0 w1).1 wt)
          · rintro ⟨z, y⟩ a a0 a1 w w0 w1 hw
            by_cases q : a = v
            · subst q
              obtain ⟨i, hi, ei⟩ := mem_rd' ((om w).2 ⟨w0, w1, (hI.2 w w0 w1).2 hw⟩)
              rw [← ei]
              exact z i hi.1 hi.2
            · exact y a (by omega) a1 w w0 w1 hw
        by_cases z : (∀ i, 0 ≤ i → i < ((ones (rd m v)).length : Int) → alike n l v (rd (ones (rd m v)) i)) ∧ ∀ a, v + 1 ≤ a → a < n → ∀ w, 0 ≤ w → w < n → near n l (diam n l) a w → alike n l a w
        · rw [if_pos z] at this
          rw [if_pos (e.2 z)]
          exact this
        · rw [if_neg z] at this
          rw [if_neg (fun y => z (e.1 y))]
          exact this
    have := loop n.toNat 0 (by omega) (by omega) (by omega)
    have e := alike_anti h (by omega : 2 ≤ diam n l)
    unfold impl_Graph_fibres.f
    refine Ev.bind (i_reaches h.1) (Ev.bind hD (ev_neg d2 (Ev.bind hat ?_)))
    by_cases z : anti n l
    · rw [if_pos (fun a a0 a1 w w0 w1 => e.2 z a a0 a1 w w0 w1)] at this
      rw [if_pos z]
      exact this
    · rw [if_neg fun y => z (e.1 fun v v0 v1 w w0 w1 => y v v0 v1 w w0 w1)] at this
      rw [if_neg z]
      exact this
end
end Go.Proofs.YtkmpkcofddpdgaaDoor.Q
namespace Go.Proofs.YtkmpkcofddpdgaaDoor.Q
open Go Go.RowKit Go.Proofs.YtkmpkcofddpdgaaDoor.P Go.Proofs.YtkmpkcofddpdgaaDoorW.PrintWords Go.Proofs.YtkmpkcofddpdgaaDoorW.PrintMore
def edgeRow (v : Int) (ws : List Int) : List (List Int) := (ws.filter fun w => decide (v < w)).map fun w => [v, w]
def edgesTo (l : List Int) : Nat → List (List Int)
  | 0 => []
  | m + 1 => edgesTo l m ++ edgeRow (m : Int) (ones (rd l (m : Int)))
theorem edgeRow_app (v : Int) (a b : List Int) : edgeRow v (a ++ b) = edgeRow v a ++ edgeRow v b := by simp [edgeRow]
theorem edgeRow_length (v : Int) (a : List Int) : (edgeRow v a).length ≤ a.length := by
  unfold edgeRow
  rw [List.length_map]
  exact List.length_filter_le _ _
theorem edgesTo_length (l : List Int) (m : Nat) : (edgesTo l m).length ≤ m * 62 := by
  induction m with
  | zero => simp [edgesTo]
  | succ m ih =>
    have a := edgeRow_length (m : Int) (ones (rd l (m : Int)))
    have b := ones_length (rd l (m : Int))
    simp only [edgesTo, List.length_append]
    omega
theorem edgesTo_mem {n : Int} {l : List Int} (h : rows n l) (m : Nat) (hm : (m : Int) ≤ n) (e : List Int) : e ∈ edgesTo l m ↔ ∃ v w : Int, (0 ≤ v ∧ v < m) ∧ (v < w ∧ w < n) ∧ tb (rd l v) w = true ∧ e = [v, w] := by
  have n2 := h.2.1
  induction m with
  | zero =>
    simp only [edgesTo, List.not_mem_nil, false_iff]
    rintro ⟨v, w, hv, _⟩
    omega
  | succ m ih =>
    have hr := h.2.2.2 (m : Int) (by omega) (by omega)
    simp only [edgesTo, List.mem_append]
    refine Iff.trans (or_congr (ih (by omega)) Iff.rfl) ?_
    constructor
    · rintro (⟨v, w, hv, hw⟩ | he)
      · exact ⟨v, w, by omega, hw⟩
      · obtain ⟨w, hw, rfl⟩ := List.mem_map.1 he
        obtain ⟨hw1, hw2⟩ := List.mem_filter.1 hw
        obtain ⟨w0, w1, wt⟩ := (ones_mem (by omega) n2 hr.1 hr.2 w).1 hw1
        exact ⟨m, w, by omega, ⟨by simpa using hw2, w1⟩, wt, rfl⟩
    · rintro ⟨v, w, hv, hw, ht, rfl⟩
      by_cases z : v = m
      · subst z
        refine .inr (List.mem_map.2 ⟨w, List.mem_filter.2 ⟨(ones_mem (by omega) n2 hr.1 hr.2 w).2 ⟨by omega, hw.2, ht⟩, by simpa using hw.1⟩, rfl⟩)
      · exact .inl ⟨v, w, by omega, hw, ht, rfl⟩
theorem i_edges {n : Int} {l : List Int} (h : rows n l) : Ev (fun k => impl_Graph_edges.f k n l) (edgesTo l n.toNat) := by
  have n1 := h.1
  have n2 := h.2.1
  have hl := h.2.2.1
  have loop : ∀ (d v : Nat), (v : Int) ≤ n → n - v = d → Ev (fun k => impl_Graph_edges.l0 k (edgesTo l v) n v n l) (edgesTo l n.toNat) := by
    intro d
    induction d with
    | zero =>
      intro v v1 hd
      refine ev_k ?_
      simp only [impl_Graph_edges.l0]
      refine ev_neg (by omega) (ev_some ?_)
      rw [show v = n.toNat by omega]
    | succ d ih =>
      intro v v1 hd
      have hr := h.2.2.2 (v : Int) (by omega) (by omega)
      have hp := two_pow_le (n := n) (by omega) n2
      have ol := ones_length (rd l (v : Int))
      have el := edgesTo_length l v
      have inner : ∀ (ws pre : List Int), pre ++ ws = ones (rd l (v : Int)) → Ev (fun k => impl_Graph_edges.l1 k (edgesTo l v ++ edgeRow v pre) v n v (ones (rd l (v : Int))) ((ones (rd l (v : Int))).length : Int) (pre.length : Int) n l) (edgesTo l n.toNat) := by
        intro ws
        induction ws with
        | nil =>
          intro pre hpre
          rw [List.append_nil] at hpre
          have := ih (v + 1) (by omega) (by omega)
          refine ev_k ?_
          simp only [impl_Graph_edges.l1]
          rw [w64 (a := (v : Int) + 1) (by omega) (by omega), hpre]
          exact ev_neg (by omega) this
        | cons w ws ihw =>
          intro pre hpre
          have hlt : pre.length < (ones (rd l (v : Int))).length := by rw [← hpre]; simp
          have hw : rd (ones (rd l (v : Int))) (pre.length : Int) = w := by
            rw [← hpre]
            simp [rd, List.getD_eq_getElem?_getD]
          have hrl := edgeRow_length (v : Int) pre
          have := ihw (pre ++ [w]) (by rw [← hpre]; simp)
          rw [edgeRow_app, List.length_append, List.length_singleton, Int.natCast_add] at this
          refine ev_k ?_
          simp only [impl_Graph_edges.l1, hw]
          rw [w64 (a := (pre.length : Int) + 1) (by omega) (by omega)]
          refine ev_pos (by omega) (ev_pos (by omega) (ev_pos (by omega) ?_))
          by_cases z : w > v
          · rw [show edgeRow (v : Int) [w] = [[(v : Int), w]] by simp [edgeRow]; omega, ← List.append_assoc] at this
            exact ev_pos z (ev_pos (by simp only [List.length_append]; omega) this)
          · rw [show edgeRow (v : Int) [w] = [] by simp [edgeRow]; omega, List.append_nil] at this
            exact ev_neg z this
      have := inner (ones (rd l (v : Int))) [] rfl
      rw [show edgeRow (v : Int) [] = [] from rfl, List.append_nil] at this
      refine ev_k ?_
      simp only [impl_Graph_edges.l0]
      exact ev_pos (by omega) (ev_pos (by omega) (ev_pos (by omega) (Ev.bind (i_list hr.1 (by omega)) this)))
  unfold impl_Graph_edges.f
  exact loop n.toNat 0 (by omega) (by omega)
end Go.Proofs.YtkmpkcofddpdgaaDoor.Q
namespace Go.Proofs.YtkmpkcofddpdgaaDoor.Q
open Go Go.RowKit Go.Proofs.YtkmpkcofddpdgaaDoor.P Go.Proofs.YtkmpkcofddpdgaaDoorW.PrintWords Go.Proofs.YtkmpkcofddpdgaaDoorW.PrintMore
theorem rd_at (l : List Int) (i : Int) (h1 : i.toNat < l.length) : rd l i = l[i.toNat] := by
  simp [rd, List.getD_eq_getElem?_getD, List.getElem?_eq_getElem h1]
theorem toS_l0 (l : List Int) (hl : l.length < 9223372036854775807) (d : Nat) : ∀ (m : List Int) (i : Int), 0 ≤ i → i ≤ l.length → l.length - i = d → m.length = l.length → (∀ j, j < i.toNat → m[j]? = l[j]?) →
    Ev (fun k => laws_toInt64S.l0 k l m i) l := by
  induction d with
  | zero =>
    intro m i h0 h1 hd hm hj
    refine ev_k ?_
    simp only [laws_toInt64S.l0]
    refine ev_neg (by omega) (ev_some (List.ext_getElem? fun j => ?_))
    by_cases h : j < i.toNat
    · exact hj j h
    · rw [List.getElem?_eq_none (by omega), List.getElem?_eq_none (by omega)]
  | succ d ih =>
    intro m i h0 h1 hd hm hj
    refine ev_k ?_
    simp only [laws_toInt64S.l0]
    refine ev_pos (by omega) (ev_pos h0 (ev_pos (by omega) ?_))
    rw [w64 (a := i + 1) (by omega) (by omega)]
    refine ih _ (i + 1) (by omega) (by omega) (by omega) (by simpa using hm) fun j h => ?_
    rw [List.getElem?_set]
    split
    · subst_vars
      rw [if_pos (by omega), rd_at l i (by omega), List.getElem?_eq_getElem]
    · exact hj j (by omega)
theorem toS (l : List Int) (hl : l.length ≤ 35184372088832) : Ev (fun k => laws_toInt64S.f k l) l := by
  unfold laws_toInt64S.f
  refine ev_pos (by omega) (ev_pos (by omega) ?_)
  exact toS_l0 l (by omega) l.length _ 0 (by omega) (by omega) (by omega) (by simp) (fun j h => by simp at h)
theorem eqS_l0 (l m : List Int) (e : l.length = m.length) (hl : l.length < 9223372036854775807) (d : Nat) : ∀ (i : Int), 0 ≤ i → i ≤ l.length → l.length - i = d →
    Ev (fun k => laws_eqInt64S.l0 k l m i) (decide (l.drop i.toNat = m.drop i.toNat)) := by
  have dc : ∀ (l : List Int) (i : Int), 0 ≤ i → i < l.length → l.drop i.toNat = rd l i :: l.drop (i + 1).toNat := fun l i h0 h1 => by
    rw [List.drop_eq_getElem_cons (by omega : i.toNat < l.length), show (i + 1).toNat = i.toNat + 1 by omega, rd_at l i (by omega)]
  induction d with
  | zero =>
    intro i h0 h1 hd
    refine ev_k ?_
    simp only [laws_eqInt64S.l0]
    refine ev_neg (by omega) (ev_some ?_)
    rw [List.drop_of_length_le (by omega), List.drop_of_length_le (by omega)]
    rfl
  | succ d ih =>
    intro i h0 h1 hd
    refine ev_k ?_
    simp only [laws_eqInt64S.l0]
    refine ev_pos (by omega) (ev_pos h0 (ev_pos (by omega) ?_))
    rw [w64 (a := i + 1) (by omega) (by omega), dc l i h0 (by omega), dc m i h0 (by omega)]
    by_cases h : rd l i = rd m i
    · refine ev_pos h ?_
      simp only [List.cons.injEq, h, true_and]
      exact ih (i + 1) (by omega) (by omega) (by omega)
    · refine ev_neg h (ev_some ?_)
      simp [h]
theorem eqS (l m : List Int) (hl : l.length < 9223372036854775807) : Ev (fun k => laws_eqInt64S.f k l m) (decide (l = m)) := by
  unfold laws_eqInt64S.f
  by_cases e : l.length = m.length
  · refine ev_pos (by omega) ?_
    simpa using eqS_l0 l m e hl l.length 0 (by omega) (by omega) (by omega)
  · refine ev_neg (by omega) (ev_some ?_)
    exact (decide_eq_false fun h => e (by rw [h])).symm
theorem eqS_self (l : List Int) (hl : l.length < 9223372036854775807) : Ev (fun k => laws_eqInt64S.f k l l) true := by
  simpa using eqS l l hl
theorem szS (l : List Int) (hl : l.length ≤ maxLen) : laws_szInt64S.f l 1048576 = some (if l.length ≤ 1048576 then 1048576 - (l.length : Int) else -1) := by
  unfold maxLen at hl
  unfold laws_szInt64S.f
  rw [w64 (by omega) (by omega)]
  by_cases h : l.length ≤ 1048576
  · rw [if_neg (by omega), if_pos h]
  · rw [if_pos (by omega), if_neg h]
def marks (a : Int) (n : Nat) : List Int := (List.range n).map fun (j : Nat) => a + (j : Int)
theorem marks_length (a : Int) (n : Nat) : (marks a n).length = n := by simp [marks]
theorem marks_at (a : Int) (n j : Nat) (h : j < n) : (marks a n)[j]? = some (a + j) := by
  simp [marks, h]
theorem mark_l0 (n : Nat) (a : Int) (ha : 0 ≤ a) (hn : a + n < 9223372036854775807) (d : Nat) : ∀ (m : List Int) (i : Int), 0 ≤ i → i ≤ n → n - i = d → m.length = n → (∀ j, j < i.toNat → m[j]? = some (a + j)) →
    Ev (fun k => laws_markInt64S.l0 k m (a + i) i) (a + n, marks a n) := by
  induction d with
  | zero =>
    intro m i h0 h1 hd hm hj
    refine ev_k ?_
    simp only [laws_markInt64S.l0]
    refine ev_neg (by omega) (ev_some ?_)
    have : m = marks a n := by
      refine List.ext_getElem? fun j => ?_
      by_cases h : j < n
      · rw [hj j (by omega), marks_at a n j h]
      · rw [List.getElem?_eq_none (by omega), List.getElem?_eq_none (by rw [marks_length]; omega)]
    rw [this, show i = n by omega]
  | succ d ih =>
    intro m i h0 h1 hd hm hj
    refine ev_k ?_
    simp only [laws_markInt64S.l0]
    refine ev_pos (by omega) (ev_pos h0 ?_)
    rw [w64 (a := i + 1) (by omega) (by omega), w64 (a := a + i + 1) (by omega) (by omega), show a + i + 1 = a + (i + 1) by omega]
    refine ih _ (i + 1) (by omega) (by omega) (by omega) (by simpa using hm) fun j h => ?_
    rw [List.getElem?_set]
    split
    · subst_vars
      rw [if_pos (by omega), Int.toNat_of_nonneg h0]
    · exact hj j (by omega)
theorem markS (l : List Int) (a : Int) (ha : 0 ≤ a) (hn : a + l.length < 9223372036854775807) : Ev (fun k => laws_markInt64S.f k l a) (a + l.length, marks a l.length) := by
  unfold laws_markInt64S.f
  have h := mark_l0 l.length a ha hn l.length l 0 (by omega) (by omega) (by omega) rfl (fun j h => by simp at h)
  rwa [Int.add_zero] at h
theorem held_l0 (n : Nat) (a : Int) (ha : 0 ≤ a) (hn : a + n < 9223372036854775807) (d : Nat) : ∀ (i : Int), 0 ≤ i → i ≤ n → n - i = d →
    Ev (fun k => laws_heldInt64S.l0 k (marks a n) (a + i) i) (a + n) := by
  induction d with
  | zero =>
    intro i h0 h1 hd
    refine ev_k ?_
    simp only [laws_heldInt64S.l0]
    exact ev_neg (by rw [marks_length]; omega) (ev_some (by omega))
  | succ d ih =>
    intro i h0 h1 hd
    refine ev_k ?_
    simp only [laws_heldInt64S.l0]
    refine ev_pos (by rw [marks_length]; omega) (ev_pos h0 (ev_pos ?_ ?_))
    · have := marks_at a n i.toNat (by omega)
      simp only [rd, List.getD_eq_getElem?_getD, this, Option.getD_some]
      omega
    · rw [w64 (a := i + 1) (by omega) (by omega), w64 (a := a + i + 1) (by omega) (by omega), show a + i + 1 = a + (i + 1) by omega]
      exact ih (i + 1) (by omega) (by omega) (by omega)
theorem heldS (n : Nat) (a : Int) (ha : 0 ≤ a) (hn : a + n < 9223372036854775807) : Ev (fun k => laws_heldInt64S.f k (marks a n) a) (a + n) := by
  unfold laws_heldInt64S.f
  have h := held_l0 n a ha hn n 0 (by omega) (by omega) (by omega)
  rwa [Int.add_zero] at h
end Go.Proofs.YtkmpkcofddpdgaaDoor.Q
namespace Go.Proofs.YtkmpkcofddpdgaaDoor.Q
open Go Go.RowKit Go.Proofs.YtkmpkcofddpdgaaDoor.P Go.Proofs.YtkmpkcofddpdgaaDoorW.PrintWords Go.Proofs.YtkmpkcofddpdgaaDoorW.PrintMore
theorem szG (n : Int) (l : List Int) (hl : l.length ≤ maxLen) : laws_szGraph.f n l 1048576 = some (if l.length ≤ 1048576 then 1048576 - (l.length : Int) else -1) := by
  unfold laws_szGraph.f
  rw [szS l hl]
  simp only [Option.bind_some]
  by_cases h : l.length ≤ 1048576
  · rw [if_pos h, if_neg (by omega)]
  · rw [if_neg h, if_pos (by decide)]
theorem toG (n : Int) (l : List Int) (hl : l.length ≤ 1048576) : Ev (fun m => laws_toGraph.f m n l) (n, l) := by
  unfold laws_toGraph.f
  exact Ev.bind (toS l (by omega)) (Ev.now _)
theorem eqG (n : Int) (l : List Int) (hl : l.length ≤ 1048576) : Ev (fun m => laws_eqGraph.f m n l n l) true := by
  unfold laws_eqGraph.f
  exact ev_pos rfl (Ev.bind (eqS_self l (by omega)) (ev_pos rfl (Ev.now _)))
theorem markG (n : Int) (l : List Int) (hl : l.length ≤ 1048576) : Ev (fun m => laws_markGraph.f m n l 1) (1 + (l.length : Int), marks 1 l.length) := by
  unfold laws_markGraph.f
  exact Ev.bind (markS l 1 (by omega) (by omega)) (Ev.now _)
theorem heldG (n : Int) (j : Nat) (hl : j ≤ 1048576) : Ev (fun m => laws_heldGraph.f m n (marks 1 j) 1) (1 + (j : Int)) := by
  unfold laws_heldGraph.f
  exact Ev.bind (heldS j 1 (by omega) (by omega)) (ev_neg (by omega) (Ev.now _))
end Go.Proofs.YtkmpkcofddpdgaaDoor.Q
namespace Go.Proofs.YtkmpkcofddpdgaaDoor.Pure
open Go Go.RowKit Go.Proofs.YtkmpkcofddpdgaaDoor.P Go.Proofs.YtkmpkcofddpdgaaDoorW.PrintWords Go.Proofs.YtkmpkcofddpdgaaDoorW.PrintLast Go.Proofs.YtkmpkcofddpdgaaDoorW.PrintMore Go.Proofs.YtkmpkcofddpdgaaDoor.Q
theorem leads_mono (P : Int → Prop) (s d : Nat) : (leads P s).length ≤ (leads P (s + d)).length := by
  induction d with
  | zero => exact Nat.le_refl _
  | succ d ih =>
    rw [← Nat.add_assoc]
    simp only [leads]
    split
    · simp; omega
    · exact ih
theorem leads_index (P : Int → Prop) (t : Nat) : ∀ i : Int, 0 ≤ i → i < (leads P t).length → (0 ≤ rd (leads P t) i ∧ rd (leads P t) i < t) ∧ P (rd (leads P t) i) ∧ ((leads P (rd (leads P t) i).toNat).length : Int) = i := by
  induction t with
  | zero => intro i i0 i1; simp [leads] at i1; omega
  | succ t ih =>
    intro i i0 i1
    simp only [leads] at i1 ⊢
    by_cases h : P t
    · rw [if_pos h] at i1 ⊢
      rw [List.length_append, List.length_singleton] at i1
      by_cases z : i < (leads P t).length
      · have e : rd (leads P t ++ [(t : Int)]) i = rd (leads P t) i := by
          have : i.toNat < (leads P t).length := by omega
          simp only [rd, List.getD_eq_getElem?_getD, List.getElem?_append_left this]
        rw [e]
        obtain ⟨a, b, c⟩ := ih i i0 z
        exact ⟨by omega, b, c⟩
      · have e : rd (leads P t ++ [(t : Int)]) i = t := by
          have : i = (leads P t).length := by omega
          rw [this]
          simp [rd, List.getD_eq_getElem?_getD]
        rw [e, Int.toNat_natCast]
        exact ⟨by omega, h, by omega⟩
    · rw [if_neg h] at i1 ⊢
      obtain ⟨a, b, c⟩ := ih i i0 i1
      exact ⟨by omega, b, c⟩
theorem i_put_same (n : Int) (m : List Int) (v : Int) : impl_Graph_put.f n m v v = some m := by
  unfold impl_Graph_put.f
  rw [if_pos rfl]
def Num (n : Int) (m : List Int) (u x : Int) : Prop := ∃ p, ((0 ≤ p ∧ p < n) ∧ Lead n m p) ∧ Rc n m p u ∧ x = ((leads (Lead n m) p.toNat).length : Nat)
section
variable {n : Int} {l m : List Int} (h : isG n l) (hm : Mx n m (near n l (diam n l))) (hmg : isG n m) (ha : anti n l)
include hmg in
theorem Num.uniq {u x y : Int} (u0 : 0 ≤ u) (u1 : u < n) (hx : Num n m u x) (hy : Num n m u y) : x = y := by
  obtain ⟨p, ⟨hp, lp⟩, rp, rfl⟩ := hx
  obtain ⟨q, ⟨hq, lq⟩, rq, rfl⟩ := hy
  rcases Int.lt_trichotomy p q with z | z | z
  · exact absurd (Rc.trans u0 u1 hq.1 hq.2 rp (Rc.symm hmg hq.1 hq.2 u0 u1 rq)) (lq p hp.1 z)
  · rw [z]
  · exact absurd (Rc.trans u0 u1 hp.1 hp.2 rq (Rc.symm hmg hp.1 hp.2 u0 u1 rp)) (lp q hq.1 z)
theorem Num.range {u x : Int} (hx : Num n m u x) : 0 ≤ x ∧ x < (leads (Lead n m) n.toNat).length := by
  obtain ⟨p, ⟨hp, lp⟩, rp, rfl⟩ := hx
  have a := leads_mono (Lead n m) (p.toNat + 1) (n.toNat - (p.toNat + 1))
  rw [show p.toNat + 1 + (n.toNat - (p.toNat + 1)) = n.toNat by omega] at a
  simp only [leads] at a
  rw [if_pos (by rw [show ((p.toNat : Nat) : Int) = p by omega]; exact lp), List.length_append, List.length_singleton] at a
  omega
include h hm ha in
theorem rc_anti {u v : Int} (u0 : 0 ≤ u) (u1 : u < n) (v0 : 0 ≤ v) (v1 : v < n) : Rc n m u v ↔ u = v ∨ near n l (diam n l) u v := by
  obtain ⟨_, tr⟩ := (anti_near h).1 ha
  rw [Rc_iff (by omega) v0 v1]
  constructor
  · rintro ⟨k, hk⟩
    have go : ∀ (k : Nat) (v : Int), 0 ≤ v → v < n → Wk n m u k v → u = v ∨ near n l (diam n l) u v := by
      intro k
      induction k with
      | zero => intro v _ _ z; exact .inl (show v = u from z).symm
      | succ k ih =>
        rintro v v0 v1 ⟨_, w, hw, hk, ht⟩
        have wv := ((hm.2 w hw.1 hw.2).2 v v0 v1).1 ht
        rcases ih w hw.1 hw.2 hk with z | z
        · exact .inr (z ▸ wv)
        · by_cases q : u = v
          · exact .inl q
          · exact .inr (tr w u v hw ⟨u0, u1⟩ ⟨v0, v1⟩ q ((near_sym h _ u0 u1 hw.1 hw.2).1 z) wv)
    exact go k v v0 v1 hk
  · rintro (rfl | z)
    · exact ⟨0, rfl⟩
    · exact ⟨1, ⟨v0, v1⟩, u, ⟨u0, u1⟩, rfl, ((hm.2 u u0 u1).2 v v0 v1).2 z⟩
def Ed (n : Int) (l of : List Int) (a b : Int) : Prop := ∃ v w, ((0 ≤ v ∧ v < n) ∧ (0 ≤ w ∧ w < n)) ∧ tb (rd l v) w = true ∧ rd of v = a ∧ rd of w = b ∧ a ≠ b
include h hmg in
theorem i_fold : ∃ of r, (∀ u, 0 ≤ u → u < n → Num n m u (rd of u)) ∧ (of.length : Int) = n ∧ Mx (leads (Lead n m) n.toNat).length r (Ed n l of) ∧ Ev (fun k => impl_FoldedGraph.l0 k (clss n m (leads (Lead n m) n.toNat)) (List.replicate n.toNat 0) (clss n m (leads (Lead n m) n.toNat)) ((clss n m (leads (Lead n m) n.toNat)).length : Int) 0 n l) (((leads (Lead n m) n.toNat).length : Int), r, 0) := by
  have n1 := h.1.1
  have n2 := h.1.2.1
  have hcl : (clss n m (leads (Lead n m) n.toNat)).length = (leads (Lead n m) n.toNat).length := by simp [clss]
  have hll := leads_length (Lead n m) n.toNat
  have hidx := leads_index (Lead n m) n.toNat
  have hmem := leads_mem (Lead n m) n.toNat
  generalize hF : leads (Lead n m) n.toNat = F at *
  -- the edges
  have l2 : ∀ (of : List Int), (of.length : Int) = n → (∀ u, 0 ≤ u → u < n → Num n m u (rd of u)) → ∃ r, Mx F.length r (Ed n l of) ∧ Ev (fun k => impl_FoldedGraph.l2 k of (edgesTo l n.toNat) ((edgesTo l n.toNat).length : Int) 0 (F.length : Int) (List.replicate F.length 0)) ((F.length : Int), r, 0) := by
    intro of hol hof
    have em := edgesTo_mem h.1 n.toNat (by omega)
    have el := edgesTo_length l n.toNat
    have loop : ∀ (d : Nat) (i : Int) (r : List Int), 0 ≤ i → i ≤ (edgesTo l n.toNat).length → (edgesTo l n.toNat).length - i = d → Mx F.length r (fun a b => ∃ j v w, (0 ≤ j ∧ j < i) ∧ rd_L1 (edgesTo l n.toNat) j = [v, w] ∧ ((rd of v = a ∧ rd of w = b) ∨ (rd of v = b ∧ rd of w = a)) ∧ a ≠ b) → ∃ R, Mx F.length R (Ed n l of) ∧ Ev (fun k => impl_FoldedGraph.l2 k of (edgesTo l n.toNat) ((edgesTo l n.toNat).length : Int) i (F.length : Int) r) ((F.length : Int), R, 0) := by
      have at_ : ∀ j : Int, 0 ≤ j → j < (edgesTo l n.toNat).length → ∃ v w, rd_L1 (edgesTo l n.toNat) j = [v, w] ∧ ((0 ≤ v ∧ v < n) ∧ (v < w ∧ w < n)) ∧ tb (rd l v) w = true := fun j j0 j1 => by
        have hlt : j.toNat < (edgesTo l n.toNat).length := by omega
        obtain ⟨v, w, hv, hw, ht, e⟩ := (em _).1 (List.getElem_mem hlt)
        exact ⟨v, w, by simp [rd_L1, List.getD_eq_getElem?_getD, List.getElem?_eq_getElem hlt, e], by omega, ht⟩
      intro d
      induction d with
      | zero =>
        intro i r i0 i1 hd hr
        refine ⟨r, hr.imp fun a b a0 a1 b0 b1 => ?_, ev_k ?_⟩
        · constructor
          · rintro ⟨j, v, w, hj, e, z, hne⟩
            obtain ⟨v', w', e', hvw, ht⟩ := at_ j hj.1 (by omega)
            rw [e] at e'
            injection e' with q1 q2
            injection q2 with q2 _
            subst q1 q2
            rcases z with ⟨x, y⟩ | ⟨x, y⟩
            · exact ⟨v, w, by omega, ht, x, y, hne⟩
            · exact ⟨w, v, by omega, by rw [h.2.2 w v (by omega) hvw.2.2 hvw.1.1 hvw.1.2]; exact ht, y, x, hne⟩
          · rintro ⟨v, w, hvw, ht, x, y, hne⟩
            rcases Int.lt_trichotomy v w with z | z | z
            · obtain ⟨j, hj, e⟩ := List.getElem_of_mem ((em [v, w]).2 ⟨v, w, by omega, by omega, ht, rfl⟩)
              exact ⟨j, v, w, by omega, by simp [rd_L1, List.getD_eq_getElem?_getD, List.getElem?_eq_getElem hj, e], .inl ⟨x, y⟩, hne⟩
            · rw [z, h.2.1 w hvw.2.1 hvw.2.2] at ht
              cases ht
            · rw [h.2.2 v w hvw.1.1 hvw.1.2 hvw.2.1 hvw.2.2] at ht
              obtain ⟨j, hj, e⟩ := List.getElem_of_mem ((em [w, v]).2 ⟨w, v, by omega, by omega, ht, rfl⟩)
              exact ⟨j, w, v, by omega, by simp [rd_L1, List.getD_eq_getElem?_getD, List.getElem?_eq_getElem hj, e], .inr ⟨y, x⟩, hne⟩
        · simp only [impl_FoldedGraph.l2]
          exact ev_neg (by omega) (Ev.now _)
      | succ d ih =>
        intro i r i0 i1 hd hr
        obtain ⟨v, w, e, hvw, ht⟩ := at_ i i0 (by omega)
        have r1 := (hof v hvw.1.1 hvw.1.2).range
        have r2 := (hof w (by omega) hvw.2.2).range
        rw [hF] at r1 r2
        have hrl := hr.1
        have key : ∃ r', Mx F.length r' (fun a b => ∃ j v w, (0 ≤ j ∧ j < i + 1) ∧ rd_L1 (edgesTo l n.toNat) j = [v, w] ∧ ((rd of v = a ∧ rd of w = b) ∨ (rd of v = b ∧ rd of w = a)) ∧ a ≠ b) ∧ impl_Graph_put.f (F.length : Int) r (rd of v) (rd of w) = some r' := by
          by_cases q : rd of v = rd of w
          · refine ⟨r, hr.imp fun a b a0 a1 b0 b1 => ?_, by rw [q]; exact i_put_same _ _ _⟩
            constructor
            · rintro ⟨j, x, y, hj, z⟩
              exact ⟨j, x, y, by omega, z⟩
            · rintro ⟨j, x, y, hj, e', z, hne⟩
              by_cases p : j = i
              · rw [p, e] at e'
                injection e' with q1 q2
                injection q2 with q2 _
                subst q1 q2
                omega
              · exact ⟨j, x, y, by omega, e', z, hne⟩
          · refine ⟨_, (hr.joined (by omega) r1.1 r1.2 r2.1 r2.2).imp fun a b a0 a1 b0 b1 => ?_, i_put _ r _ _ r1.1 (by omega) r2.1 (by omega) q⟩
            constructor
            · rintro (⟨j, x, y, hj, z⟩ | ⟨rfl, rfl⟩ | ⟨rfl, rfl⟩)
              · exact ⟨j, x, y, by omega, z⟩
              · exact ⟨i, v, w, by omega, e, .inl ⟨rfl, rfl⟩, q⟩
              · exact ⟨i, v, w, by omega, e, .inr ⟨rfl, rfl⟩, fun z => q z.symm⟩
            · rintro ⟨j, x, y, hj, e', z, hne⟩
              by_cases p : j = i
              · rw [p, e] at e'
                injection e' with q1 q2
                injection q2 with q2 _
                subst q1 q2
                rcases z with ⟨z1, z2⟩ | ⟨z1, z2⟩
                · exact .inr (.inl ⟨z1.symm, z2.symm⟩)
                · exact .inr (.inr ⟨z2.symm, z1.symm⟩)
              · exact .inl ⟨j, x, y, by omega, e', z, hne⟩
        obtain ⟨r', hr', hput⟩ := key
        obtain ⟨R, hR, hE⟩ := ih (i + 1) r' (by omega) (by omega) (by omega) hr'
        refine ⟨R, hR, ev_k ?_⟩
        simp only [impl_FoldedGraph.l2, e]
        rw [w64 (a := i + 1) (by omega) (by omega)]
        have e0 : rd [v, w] 0 = v := rfl
        have e1 : rd [v, w] 1 = w := rfl
        rw [e0, e1, hput]
        exact ev_pos (by omega) (ev_pos i0 (ev_pos (by omega) (ev_pos (by simp) (ev_pos hvw.1.1 (ev_pos (by omega) (ev_pos (by simp) (ev_pos (by omega) (ev_pos (by omega) hE))))))))
    have z := Mx.zero (F.length : Int) (by omega)
    rw [Int.toNat_natCast] at z
    exact loop (edgesTo l n.toNat).length 0 _ (by omega) (by omega) (by omega) (z.imp fun a b _ _ _ _ => ⟨False.elim, fun ⟨j, _, _, hj, _⟩ => by omega⟩)
  have cov : ∀ u, 0 ≤ u → u < n → ∃ i, (0 ≤ i ∧ i < (F.length : Int)) ∧ Rc n m (rd F i) u := fun u u0 u1 => by
    -- the least one that leads to u
    have go : ∀ (k : Nat) (p : Int), 0 ≤ p → p < n → p.toNat ≤ k → Rc n m p u → ∃ q, ((0 ≤ q ∧ q < n) ∧ Lead n m q) ∧ Rc n m q u := by
      intro k
      induction k with
      | zero => intro p p0 p1 hk hr; exact ⟨p, ⟨⟨p0, p1⟩, fun x x0 x1 => by omega⟩, hr⟩
      | succ k ih =>
        intro p p0 p1 hk hr
        by_cases z : Lead n m p
        · exact ⟨p, ⟨⟨p0, p1⟩, z⟩, hr⟩
        · have : ∃ x, (0 ≤ x ∧ x < p) ∧ Rc n m x p := Classical.byContradiction fun y => z fun x x0 x1 hx => y ⟨x, ⟨x0, x1⟩, hx⟩
          obtain ⟨x, hx, hxp⟩ := this
          exact ih x hx.1 (by omega) (by omega) (Rc.trans p0 p1 u0 u1 hxp hr)
    obtain ⟨q, ⟨hq, lq⟩, hr⟩ := go u.toNat u u0 u1 (Nat.le_refl _) (Rc.refl u0 u1)
    obtain ⟨i, hi, e⟩ := mem_rd' ((hmem q).2 ⟨by omega, lq⟩)
    exact ⟨i, hi, by rw [e]; exact hr⟩
  have l0 : ∀ (d : Nat) (i : Int) (of : List Int), 0 ≤ i → i ≤ F.length → F.length - i = d → (of.length : Int) = n → (∀ u, 0 ≤ u → u < n → (∃ j, (0 ≤ j ∧ j < i) ∧ Rc n m (rd F j) u) → Num n m u (rd of u)) → ∃ of' r, (∀ u, 0 ≤ u → u < n → Num n m u (rd of' u)) ∧ (of'.length : Int) = n ∧ Mx F.length r (Ed n l of') ∧ Ev (fun k => impl_FoldedGraph.l0 k (clss n m F) of (clss n m F) ((clss n m F).length : Int) i n l) ((F.length : Int), r, 0) := by
    intro d
    induction d with
    | zero =>
      intro i of i0 i1 hd hol hof
      have hall : ∀ u, 0 ≤ u → u < n → Num n m u (rd of u) := fun u u0 u1 => by
        obtain ⟨j, hj, hr⟩ := cov u u0 u1
        exact hof u u0 u1 ⟨j, by omega, hr⟩
      obtain ⟨r, hr, hE⟩ := l2 of hol hall
      refine ⟨of, r, hall, hol, hr, ev_k ?_⟩
      simp only [impl_FoldedGraph.l0, hcl]
      have he := i_empty (F.length : Int) (by omega) (by omega)
      rw [Int.toNat_natCast] at he
      exact ev_neg (by omega) (ev_bind0 he (Ev.bind (i_edges h.1) hE))
    | succ d ih =>
      intro i of i0 i1 hd hol hof
      obtain ⟨⟨p0, p1⟩, lp, hidx'⟩ := hidx i i0 (by omega)
      have hrow : rd_L1 (clss n m F) i = ones (pset n m (rd F i)) := by
        have : i.toNat < F.length := by omega
        simp [rd_L1, clss, List.getD_eq_getElem?_getD, this, rd]
      obtain ⟨p, hpi⟩ : ∃ p, rd F i = p := ⟨_, rfl⟩
      rw [hpi] at p0 p1 lp hidx' hrow
      have hps := (pset_is hmg.1 p0 (by omega : p < n)).1
      have om := fun u => ones_mem (n := n) (by omega) n2 hps.1.1 hps.1.2 u
      have ol := ones_length (pset n m p)
      have l1 : ∀ (ws pre of : List Int), pre ++ ws = ones (pset n m p) → (of.length : Int) = n → (∀ u, 0 ≤ u → u < n → ((∃ j, (0 ≤ j ∧ j < i) ∧ Rc n m (rd F j) u) ∨ u ∈ pre) → Num n m u (rd of u)) → ∃ of' r, (∀ u, 0 ≤ u → u < n → Num n m u (rd of' u)) ∧ (of'.length : Int) = n ∧ Mx F.length r (Ed n l of') ∧ Ev (fun k => impl_FoldedGraph.l1 k (clss n m F) of i (clss n m F) ((clss n m F).length : Int) i (ones (pset n m p)) ((ones (pset n m p)).length : Int) (pre.length : Int) n l) ((F.length : Int), r, 0) := by
        intro ws
        induction ws with
        | nil =>
          intro pre of hpre hol hof
          rw [List.append_nil] at hpre
          obtain ⟨of', r, h1, h2, h3, hE⟩ := ih (i + 1) of (by omega) (by omega) (by omega) hol (fun u u0 u1 => by
            rintro ⟨j, hj, hr⟩
            by_cases z : j = i
            · refine hof u u0 u1 (.inr ?_)
              rw [hpre]
              exact (om u).2 ⟨u0, u1, (hps.2 u u0 u1).2 (by rw [z, hpi] at hr; exact hr)⟩
            · exact hof u u0 u1 (.inl ⟨j, by omega, hr⟩))
          refine ⟨of', r, h1, h2, h3, ev_k ?_⟩
          simp only [impl_FoldedGraph.l1]
          rw [w64 (a := i + 1) (by omega) (by omega), hpre]
          exact ev_neg (by omega) hE
        | cons w ws ihw =>
          intro pre of hpre hol hof
          have hlt : pre.length < (ones (pset n m p)).length := by rw [← hpre]; simp
          have hw : rd (ones (pset n m p)) (pre.length : Int) = w := by
            rw [← hpre]
            simp [rd, List.getD_eq_getElem?_getD]
          obtain ⟨w0, w1, wt⟩ := (om w).1 (by rw [← hpre]; simp)
          obtain ⟨of', r, h1, h2, h3, hE⟩ := ihw (pre ++ [w]) (of.set w.toNat i) (by rw [← hpre]; simp) (by simpa using hol) (fun u u0 u1 hu => by
            rw [rd_set _ w0 (by omega) u0]
            by_cases z : u = w
            · rw [if_pos z, z]
              exact ⟨p, ⟨⟨p0, by omega⟩, lp⟩, (hps.2 w w0 w1).1 wt, hidx'.symm⟩
            · rw [if_neg z]
              refine hof u u0 u1 (hu.imp id fun q => ?_)
              rcases List.mem_append.1 q with q | q
              · exact q
              · exact absurd (List.mem_singleton.1 q) z)
          rw [List.length_append, List.length_singleton, Int.natCast_add] at hE
          refine ⟨of', r, h1, h2, h3, ev_k ?_⟩
          simp only [impl_FoldedGraph.l1, hw]
          rw [w64 (a := (pre.length : Int) + 1) (by omega) (by omega)]
          exact ev_pos (by omega) (ev_pos (by omega) (ev_pos (by omega) (ev_pos w0 (ev_pos (by omega) hE))))
      obtain ⟨of', r, h1, h2, h3, hE⟩ := l1 (ones (pset n m p)) [] of rfl hol (fun u u0 u1 hu => hof u u0 u1 (hu.resolve_right (by simp)))
      refine ⟨of', r, h1, h2, h3, ev_k ?_⟩
      simp only [impl_FoldedGraph.l0]
      rw [hrow]
      exact ev_pos (by omega) (ev_pos i0 (ev_pos (by omega) hE))
  exact l0 F.length 0 _ (by omega) (by omega) (by omega) (by simp; omega) (fun u _ _ ⟨j, hj, _⟩ => by omega)
include h hm hmg ha
theorem s_fold : ∃ of r, (∀ u, 0 ≤ u → u < n → Num n m u (rd of u)) ∧ (of.length : Int) = n ∧ Mx (leads (Lead n m) n.toNat).length r (Ed n l of) ∧ Ev (fun k => spec_FoldedGraph.l0 k (dists n l n.toNat) (List.replicate n.toNat 0) 0 (diam n l) 0 n l) (((leads (Lead n m) n.toNat).length : Int), r, 0) := by
  have n1 := h.1.1
  have n2 := h.1.2.1
  have hl := h.1.2.2.1
  have hdl := dists_length n l n.toNat
  have d2 := ha.1
  have hll := fun t => leads_length (Lead n m) t
  have edges : ∀ of : List Int, (of.length : Int) = n → (∀ u, 0 ≤ u → u < n → Num n m u (rd of u)) → ∃ r, Mx (leads (Lead n m) n.toNat).length r (Ed n l of) ∧ Ev (fun k => spec_FoldedGraph.l2 k of 0 n l ((leads (Lead n m) n.toNat).length : Int) (List.replicate (leads (Lead n m) n.toNat).length 0)) (((leads (Lead n m) n.toNat).length : Int), r, 0) := by
    intro of hol hof
    have hrg := fun u u0 u1 => (hof u u0 u1).range
    have hlF := hll n.toNat
    generalize (leads (Lead n m) n.toNat).length = c at *
    have l2 : ∀ (d : Nat) (v : Int) (r : List Int), 0 ≤ v → v ≤ n → n - v = d → Mx c r (fun a b => ∃ x y, ((0 ≤ y ∧ y < x) ∧ x < v) ∧ tb (rd l x) y = true ∧ ((rd of x = a ∧ rd of y = b) ∨ (rd of x = b ∧ rd of y = a)) ∧ a ≠ b) → ∃ R, Mx c R (Ed n l of) ∧ Ev (fun k => spec_FoldedGraph.l2 k of v n l (c : Int) r) ((c : Int), R, 0) := by
      intro d
      induction d with
      | zero =>
        intro v r v0 v1 hd hr
        obtain rfl : v = n := by omega
        refine ⟨r, hr.imp fun a b _ _ _ _ => ?_, ev_k ?_⟩
        · constructor
          · rintro ⟨x, y, hxy, ht, z, hne⟩
            rcases z with ⟨z1, z2⟩ | ⟨z1, z2⟩
            · exact ⟨x, y, by omega, ht, z1, z2, hne⟩
            · exact ⟨y, x, by omega, by rw [h.2.2 y x hxy.1.1 (by omega) (by omega) hxy.2]; exact ht, z2, z1, hne⟩
          · rintro ⟨x, y, hxy, ht, z1, z2, hne⟩
            rcases Int.lt_trichotomy x y with q | q | q
            · exact ⟨y, x, by omega, by rw [h.2.2 y x hxy.2.1 hxy.2.2 hxy.1.1 hxy.1.2]; exact ht, .inr ⟨z2, z1⟩, hne⟩
            · rw [q, h.2.1 y hxy.2.1 hxy.2.2] at ht
              cases ht
            · exact ⟨x, y, by omega, ht, .inl ⟨z1, z2⟩, hne⟩
        · simp only [spec_FoldedGraph.l2]
          exact ev_neg (by omega) (Ev.now _)
      | succ d ih =>
        intro v r v0 v1 hd hr
        have l3 : ∀ (e : Nat) (w : Int) (r : List Int), 0 ≤ w → w ≤ v → v - w = e → Mx c r (fun a b => ∃ x y, ((0 ≤ y ∧ y < x) ∧ (x < v ∨ (x = v ∧ y < w))) ∧ tb (rd l x) y = true ∧ ((rd of x = a ∧ rd of y = b) ∨ (rd of x = b ∧ rd of y = a)) ∧ a ≠ b) → ∃ R, Mx c R (Ed n l of) ∧ Ev (fun k => spec_FoldedGraph.l3 k of v w n l (c : Int) r) ((c : Int), R, 0) := by
          intro e
          induction e with
          | zero =>
            intro w r w0 w1 he hr
            obtain ⟨R, hR, hE⟩ := ih (v + 1) r (by omega) (by omega) (by omega) (hr.imp fun a b _ _ _ _ => ⟨fun ⟨x, y, hxy, z⟩ => ⟨x, y, by omega, z⟩, fun ⟨x, y, hxy, z⟩ => ⟨x, y, by omega, z⟩⟩)
            refine ⟨R, hR, ev_k ?_⟩
            simp only [spec_FoldedGraph.l3]
            rw [w64 (a := v + 1) (by omega) (by omega)]
            exact ev_neg (by omega) hE
          | succ e ihe =>
            intro w r w0 w1 he hr
            have bq : bits .and .i64 (shr .i64 (rd l v) w) 1 = 1 ↔ tb (rd l v) w = true := by
              rw [bit_at (by omega) (by omega)]
              cases tb (rd l v) w <;> simp
            have hrl := hr.1
            by_cases ht : tb (rd l v) w = true
            · by_cases hq : rd of v = rd of w
              · obtain ⟨R, hR, hE⟩ := ihe (w + 1) r (by omega) (by omega) (by omega) (hr.imp fun a b _ _ _ _ => ⟨fun ⟨x, y, hxy, z⟩ => ⟨x, y, by omega, z⟩, fun ⟨x, y, hxy, ht', z, hne⟩ => by
                  by_cases p : x = v ∧ y = w
                  · rw [p.1, p.2] at z
                    omega
                  · exact ⟨x, y, by omega, ht', z, hne⟩⟩)
                refine ⟨R, hR, ev_k ?_⟩
                simp only [spec_FoldedGraph.l3]
                rw [wu64 (a := w) (by omega) (by omega), w64 (a := w + 1) (by omega) (by omega)]
                exact ev_pos (by omega) (ev_pos v0 (ev_pos (by omega) (ev_pos w0 (ev_pos (bq.2 ht) (ev_pos (by omega) (ev_pos w0 (ev_pos (by omega) (ev_pos hq hE))))))))
              · have r1 := hrg v v0 (by omega)
                have r2 := hrg w w0 (by omega)
                obtain ⟨R, hR, hE⟩ := ihe (w + 1) _ (by omega) (by omega) (by omega) ((hr.joined (by omega) r1.1 r1.2 r2.1 r2.2).imp fun a b _ _ _ _ => by
                  constructor
                  · rintro (⟨x, y, hxy, z⟩ | ⟨rfl, rfl⟩ | ⟨rfl, rfl⟩)
                    · exact ⟨x, y, by omega, z⟩
                    · exact ⟨v, w, by omega, ht, .inl ⟨rfl, rfl⟩, hq⟩
                    · exact ⟨v, w, by omega, ht, .inr ⟨rfl, rfl⟩, fun z => hq z.symm⟩
                  · rintro ⟨x, y, hxy, ht', z, hne⟩
                    by_cases p : x = v ∧ y = w
                    · rw [p.1, p.2] at z
                      rcases z with ⟨z1, z2⟩ | ⟨z1, z2⟩
                      · exact .inr (.inl ⟨z1.symm, z2.symm⟩)
                      · exact .inr (.inr ⟨z2.symm, z1.symm⟩)
                    · exact .inl ⟨x, y, by omega, ht', z, hne⟩)
                refine ⟨R, hR, ev_k ?_⟩
                simp only [spec_FoldedGraph.l3]
                rw [wu64 (a := w) (by omega) (by omega), w64 (a := w + 1) (by omega) (by omega)]
                exact ev_pos (by omega) (ev_pos v0 (ev_pos (by omega) (ev_pos w0 (ev_pos (bq.2 ht) (ev_pos (by omega) (ev_pos w0 (ev_pos (by omega) (ev_neg hq (ev_bind0 (s_with _ r _ _ r1.1 (by omega) r2.1 (by omega) (by omega)) hE)))))))))
            · obtain ⟨R, hR, hE⟩ := ihe (w + 1) r (by omega) (by omega) (by omega) (hr.imp fun a b _ _ _ _ => ⟨fun ⟨x, y, hxy, z⟩ => ⟨x, y, by omega, z⟩, fun ⟨x, y, hxy, ht', z⟩ => by
                by_cases p : x = v ∧ y = w
                · rw [p.1, p.2] at ht'
                  exact absurd ht' ht
                · exact ⟨x, y, by omega, ht', z⟩⟩)
              refine ⟨R, hR, ev_k ?_⟩
              simp only [spec_FoldedGraph.l3]
              rw [wu64 (a := w) (by omega) (by omega), w64 (a := w + 1) (by omega) (by omega)]
              exact ev_pos (by omega) (ev_pos v0 (ev_pos (by omega) (ev_pos w0 (ev_neg (fun z => ht (bq.1 z)) hE))))
        obtain ⟨R, hR, hE⟩ := l3 v.toNat 0 r (by omega) (by omega) (by omega) (hr.imp fun a b _ _ _ _ => ⟨fun ⟨x, y, hxy, z⟩ => ⟨x, y, by omega, z⟩, fun ⟨x, y, hxy, z⟩ => ⟨x, y, by omega, z⟩⟩)
        refine ⟨R, hR, ev_k ?_⟩
        simp only [spec_FoldedGraph.l2]
        exact ev_pos (by omega) hE
    have z := Mx.zero (c : Int) (by omega)
    rw [Int.toNat_natCast] at z
    exact l2 n.toNat 0 _ (by omega) (by omega) (by omega) (z.imp fun a b _ _ _ _ => ⟨False.elim, fun ⟨x, y, hxy, _⟩ => by omega⟩)
  have l0 : ∀ (d v : Nat) (fib : List Int), (v : Int) ≤ n → n - v = d → (fib.length : Int) = n → (∀ u, 0 ≤ u → u < (v : Int) → Num n m u (rd fib u)) → ∃ of r, (∀ u, 0 ≤ u → u < n → Num n m u (rd of u)) ∧ (of.length : Int) = n ∧ Mx (leads (Lead n m) n.toNat).length r (Ed n l of) ∧ Ev (fun k => spec_FoldedGraph.l0 k (dists n l n.toNat) fib ((leads (Lead n m) v).length : Int) (diam n l) (v : Int) n l) (((leads (Lead n m) n.toNat).length : Int), r, 0) := by
    intro d
    induction d with
    | zero =>
      intro v fib v1 hd hfl hf
      have ev : v = n.toNat := by omega
      obtain ⟨r, hr, hE⟩ := edges fib hfl fun u u0 u1 => hf u u0 (by omega)
      have hlF := hll n.toNat
      refine ⟨fib, r, fun u u0 u1 => hf u u0 (by omega), hfl, hr, ev_k ?_⟩
      simp only [spec_FoldedGraph.l0]
      rw [ev]
      have he := s_empty ((leads (Lead n m) n.toNat).length : Int) (by omega) (by omega)
      rw [Int.toNat_natCast] at he
      exact ev_neg (by omega) (ev_bind0 he hE)
    | succ d ih =>
      intro v fib v1 hd hfl hf
      have hv := rd_dists l (by omega : (0 : Int) ≤ v) (by omega : (v : Int) < n)
      have hvl := (dist_of n l v (by omega)).len
      have hlv := hll v
      have rc := fun (u : Int) (u0 : 0 ≤ u) (u1 : u < n) => rc_anti h hm ha u0 u1 (by omega : (0 : Int) ≤ v) (by omega : (v : Int) < n)
      have l1 : ∀ (e : Nat) (w : Int) (fib : List Int), 0 ≤ w → w ≤ (v : Int) → v - w = e → (fib.length : Int) = n → (∀ u, 0 ≤ u → u < (v : Int) → Num n m u (rd fib u)) → ((rd fib v = -1 ∧ ∀ u, 0 ≤ u → u < w → ¬ near n l (diam n l) u v) ∨ ((∃ u, (0 ≤ u ∧ u < w) ∧ near n l (diam n l) u v) ∧ Num n m v (rd fib v))) → ∃ of r, (∀ u, 0 ≤ u → u < n → Num n m u (rd of u)) ∧ (of.length : Int) = n ∧ Mx (leads (Lead n m) n.toNat).length r (Ed n l of) ∧ Ev (fun k => spec_FoldedGraph.l1 k (dists n l n.toNat) fib ((leads (Lead n m) v).length : Int) (diam n l) (v : Int) w n l) (((leads (Lead n m) n.toNat).length : Int), r, 0) := by
        intro e
        induction e with
        | zero =>
          intro w fib w0 w1 he hfl hf hs
          rcases hs with ⟨s, t⟩ | ⟨⟨u, hu, s⟩, t⟩
          · have lead : Lead n m v := fun u u0 u1 hr => by
              rcases (rc u u0 (by omega)).1 hr with z | z
              · omega
              · exact t u u0 (by omega) z
            have hset := fun j j0 => rd_set (l := fib) (i := (v : Int)) (j := j) ((leads (Lead n m) v).length : Int) (by omega) (by omega) j0
            rw [Int.toNat_natCast] at hset
            obtain ⟨of, r, h1, h2, h3, hE⟩ := ih (v + 1) (fib.set v ((leads (Lead n m) v).length : Int)) (by omega) (by omega) (by simpa using hfl) (fun u u0 u1 => by
              rw [hset u u0]
              by_cases z : u = v
              · rw [if_pos z, z]
                exact ⟨v, ⟨by omega, lead⟩, Rc.refl (by omega) (by omega), by rw [Int.toNat_natCast]⟩
              · rw [if_neg z]
                exact hf u u0 (by omega))
            have el : (leads (Lead n m) (v + 1)).length = (leads (Lead n m) v).length + 1 := by
              simp only [leads]
              rw [if_pos lead, List.length_append, List.length_singleton]
            rw [el, Int.natCast_add, Int.natCast_add] at hE
            refine ⟨of, r, h1, h2, h3, ev_k ?_⟩
            simp only [spec_FoldedGraph.l1]
            rw [w64 (a := ((leads (Lead n m) v).length : Int) + 1) (by omega) (by omega), w64 (a := (v : Int) + 1) (by omega) (by omega), Int.toNat_natCast]
            exact ev_neg (by omega) (ev_pos (by omega) (ev_pos (by omega) (ev_pos (by omega) hE)))
          · have nolead : ¬ Lead n m v := fun z => z u hu.1 (by omega) ((rc u hu.1 (by omega)).2 (.inr s))
            obtain ⟨of, r, h1, h2, h3, hE⟩ := ih (v + 1) fib (by omega) (by omega) hfl (fun u u0 u1 => by
              by_cases z : u = v
              · rw [z]; exact t
              · exact hf u u0 (by omega))
            have el : leads (Lead n m) (v + 1) = leads (Lead n m) v := by
              simp only [leads]
              rw [if_neg nolead]
            rw [el, Int.natCast_add] at hE
            have := t.range
            refine ⟨of, r, h1, h2, h3, ev_k ?_⟩
            simp only [spec_FoldedGraph.l1]
            rw [w64 (a := (v : Int) + 1) (by omega) (by omega)]
            exact ev_neg (by omega) (ev_pos (by omega) (ev_pos (by omega) (ev_neg (by omega) hE)))
        | succ e ihe =>
          intro w fib w0 w1 he hfl hf hs
          have hset := fun j j0 => rd_set (l := fib) (i := (v : Int)) (j := j) (rd fib w) (by omega) (by omega) j0
          rw [Int.toNat_natCast] at hset
          have hwl : w < ((dist n l v).length : Int) := by rw [hvl]; omega
          have hA : w < (v : Int) := by omega
          have hB : (0 : Int) ≤ (v : Int) := by omega
          have hC : (v : Int) < ((dists n l n.toNat).length : Int) := by rw [hdl]; omega
          by_cases z : rd (dist n l v) w = diam n l
          · have nr : near n l (diam n l) w v := (near_sym h _ w0 (by omega) (by omega) (by omega)).2 ⟨by omega, z⟩
            have hwv := (rc w w0 (by omega)).2 (.inr nr)
            obtain ⟨of, r, h1, h2, h3, hE⟩ := ihe (w + 1) (fib.set v (rd fib w)) (by omega) (by omega) (by omega) (by simpa using hfl) (fun u u0 u1 => by
              rw [hset u u0, if_neg (by omega)]
              exact hf u u0 u1) (.inr ⟨⟨w, by omega, nr⟩, by
              rw [hset v (by omega), if_pos rfl]
              obtain ⟨p, hp, hr, e⟩ := hf w w0 (by omega)
              exact ⟨p, hp, Rc.trans w0 (by omega) (by omega) (by omega) hr hwv, e⟩⟩)
            refine ⟨of, r, h1, h2, h3, ev_k ?_⟩
            simp only [spec_FoldedGraph.l1]
            rw [hv, w64 (a := w + 1) (by omega) (by omega), Int.toNat_natCast]
            exact ev_pos (by omega) (ev_pos (by omega) (ev_pos (by omega) (ev_pos w0 (ev_pos (by omega) (ev_pos z (ev_pos (by omega) (ev_pos (by omega) hE)))))))
          · have nr : ¬ near n l (diam n l) w v := fun y => z ((near_sym h _ w0 (by omega) (by omega) (by omega)).1 y).2
            obtain ⟨of, r, h1, h2, h3, hE⟩ := ihe (w + 1) fib (by omega) (by omega) (by omega) hfl hf (by
              rcases hs with ⟨s, t⟩ | ⟨⟨u, hu, s⟩, t⟩
              · refine .inl ⟨s, fun u u0 u1 => ?_⟩
                by_cases y : u = w
                · rw [y]; exact nr
                · exact t u u0 (by omega)
              · exact .inr ⟨⟨u, by omega, s⟩, t⟩)
            refine ⟨of, r, h1, h2, h3, ev_k ?_⟩
            simp only [spec_FoldedGraph.l1]
            rw [hv, w64 (a := w + 1) (by omega) (by omega)]
            exact ev_pos hA (ev_pos hB (ev_pos hC (ev_pos w0 (ev_pos hwl (ev_neg z hE)))))
      have hset := fun j j0 => rd_set (l := fib) (i := (v : Int)) (j := j) (-1) (by omega) (by omega) j0
      rw [Int.toNat_natCast] at hset
      obtain ⟨of, r, h1, h2, h3, hE⟩ := l1 v 0 (fib.set v (-1)) (by omega) (by omega) (by omega) (by simpa using hfl) (fun u u0 u1 => by
        rw [hset u u0, if_neg (by omega)]
        exact hf u u0 u1) (.inl ⟨by rw [hset v (by omega), if_pos rfl], fun u _ _ => by omega⟩)
      refine ⟨of, r, h1, h2, h3, ev_k ?_⟩
      simp only [spec_FoldedGraph.l0]
      rw [Int.toNat_natCast]
      exact ev_pos (by omega) (ev_pos (by omega) (ev_pos (by omega) hE))
  exact l0 n.toNat 0 _ (by omega) (by omega) (by simp; omega) (fun u u0 u1 => by omega)
end
theorem both (n : Int) (l : List Int) : ∃ m r q, r.length ≤ 1048576 ∧ Ev (fun k => spec_FoldedGraph.f k n l) (m, r, q) ∧ Ev (fun k => impl_FoldedGraph.f k n l) (m, r, q) := by
  unfold spec_FoldedGraph.f impl_FoldedGraph.f
  obtain ⟨c, hs, hi, hc⟩ := connCodes n l
  by_cases z : c = 0
  · have hg := (hc.1 z).1
    have n1 := hg.1.1
    have n2 := hg.1.2.1
    obtain ⟨m, hm, hmg, hf⟩ := i_fibres hg
    by_cases y : anti n l
    · rw [if_pos y] at hf
      obtain ⟨of, r, a1, a2, a3, hE⟩ := i_fold hg (hmg y.1)
      obtain ⟨of', r', b1, b2, b3, hE'⟩ := s_fold hg hm (hmg y.1) y
      obtain rfl : of = of' := rd_ext (by omega) fun u u0 u1 => (a1 u u0 (by omega)).uniq (hmg y.1) u0 (by omega) (b1 u u0 (by omega))
      obtain rfl := a3.eq b3 (by omega)
      obtain ⟨x, hd⟩ := s_diameter hg.1
      have hll := leads_length (Lead n m) n.toNat
      have hrl := a3.1
      exact ⟨_, r, 0, by omega, Ev.bind hs (ev_pos z (Ev.bind ((s_anti hg).yes y) (ev_pos rfl (Ev.bind (s_rows hg.1) (ev_pos (by omega) (ev_pos (by omega) (Ev.bind hd hE'))))))), Ev.bind hi (ev_pos z (Ev.bind hf (ev_pos rfl (ev_pos (by omega) (ev_pos (by omega) hE)))))⟩
    · rw [if_neg y] at hf
      exact ⟨0, [], 5, by simp, Ev.bind hs (ev_pos z (Ev.bind ((s_anti hg).no y) (ev_neg (by decide) (Ev.now _)))), Ev.bind hi (ev_pos z (Ev.bind hf (ev_neg (by decide) (Ev.now _))))⟩
  · exact ⟨0, [], c, by simp, Ev.bind hs (ev_neg z (Ev.now _)), Ev.bind hi (ev_neg z (Ev.now _))⟩
theorem FnExactFoldedGraph : ∀ (a0_0 : Int) (l0_1 : List Int), (Lit.int .i64 a0_0).wf = true → l0_1.length ≤ maxLen → (∀ x ∈ l0_1, (Lit.int .i64 x).wf = true) → ∃ k, laws_FnExactFoldedGraph.f k a0_0 l0_1 = some true := by
  intro n l _ hl _
  refine Ev.rounds ?_
  unfold laws_FnExactFoldedGraph.f
  rw [szG n l hl]
  simp only [Option.bind_some]
  by_cases hs : l.length ≤ 1048576
  · rw [if_pos hs]
    refine ev_neg (by omega) ?_
    obtain ⟨m, r, q, hr, h1, h2⟩ := both n l
    refine Ev.bind (toG n l hs) (Ev.bind h1 (Ev.bind (toG n l hs) (Ev.bind h2 (Ev.bind (eqG m r hr) (ev_pos rfl ?_)))))
    refine ev_k ?_
    simp only [laws_FnExactFoldedGraph.j0]
    refine ev_neg (by simp) (Ev.bind (toG n l hs) (Ev.bind (eqG n l hs) (ev_pos rfl (Ev.bind (markG n l hs) (ev_neg (by simp only []; omega) (Ev.bind (eqG m r hr) (ev_pos rfl ?_)))))))
    refine ev_k ?_
    simp only [laws_FnExactFoldedGraph.j1]
    refine ev_neg (by simp) (Ev.bind (markG m r hr) (Ev.bind (heldG m r.length hr) (ev_neg (by omega) (ev_pos rfl ?_))))
    refine Ev.bind (toG n l hs) (Ev.bind h2 (Ev.bind (eqG m r hr) (ev_pos rfl ?_)))
    refine ev_k ?_
    simp only [laws_FnExactFoldedGraph.j2]
    exact ev_neg (by simp) (Ev.bind (heldG m r.length hr) (ev_neg (by omega) (ev_pos rfl (Ev.now _))))
  · rw [if_neg hs]
    exact ev_pos (by decide) (Ev.now _)
end Go.Proofs.YtkmpkcofddpdgaaDoor.Pure
