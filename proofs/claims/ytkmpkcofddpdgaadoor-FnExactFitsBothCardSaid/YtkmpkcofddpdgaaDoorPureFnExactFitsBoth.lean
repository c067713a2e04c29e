/- The pure law and what it leans on, in one text (wip/bin/bundle). -/
import Derived.Test.YtkmpkcofddpdgaaDoorP63
import Derived.Test.YtkmpkcofddpdgaaDoorP71
import Derived.Test.YtkmpkcofddpdgaaDoorP72
import Derived.Test.YtkmpkcofddpdgaaDoorP73
import Derived.Test.YtkmpkcofddpdgaaDoorP81
import Derived.Test.YtkmpkcofddpdgaaDoorP82
import Derived.Test.YtkmpkcofddpdgaaDoorP68
import Derived.Test.YtkmpkcofddpdgaaDoorP69
import Derived.Test.YtkmpkcofddpdgaaDoorP70
import Derived.Test.YtkmpkcofddpdgaaDoorP75
import Derived.Test.YtkmpkcofddpdgaaDoorP76
import Derived.Test.YtkmpkcofddpdgaaDoorP113
import Derived.Test.YtkmpkcofddpdgaaDoorWA
import Derived.Test.YtkmpkcofddpdgaaDoorWBMore
import Derived.Laws.BitsLemmas
import Derived.Test.YtkmpkcofddpdgaaDoorP19
import Derived.Test.YtkmpkcofddpdgaaDoorP15
import Derived.Test.YtkmpkcofddpdgaaDoorP16
import Derived.Lib.TrailingZeros
import Derived.Test.YtkmpkcofddpdgaaDoorP4
import Derived.Test.YtkmpkcofddpdgaaDoorP66
import Derived.Test.YtkmpkcofddpdgaaDoorP12
import Derived.Test.YtkmpkcofddpdgaaDoorP2
import Derived.Test.YtkmpkcofddpdgaaDoorP3
import Derived.Test.YtkmpkcofddpdgaaDoorP114
import Derived.Test.YtkmpkcofddpdgaaDoorP77
import Derived.Test.YtkmpkcofddpdgaaDoorP78
import Derived.Test.YtkmpkcofddpdgaaDoorP64
import Derived.Test.YtkmpkcofddpdgaaDoorP65
import Derived.Test.YtkmpkcofddpdgaaDoorP79
import Derived.Test.YtkmpkcofddpdgaaDoorP80
import Derived.Test.YtkmpkcofddpdgaaDoorP67
import Derived.Test.YtkmpkcofddpdgaaDoorP57
import Derived.Test.YtkmpkcofddpdgaaDoorP1
import Derived.Test.YtkmpkcofddpdgaaDoorP11
import Derived.Test.YtkmpkcofddpdgaaDoorP23
import Derived.Test.YtkmpkcofddpdgaaDoorP10
import Derived.Test.YtkmpkcofddpdgaaDoorP22
namespace Go.Proofs.YtkmpkcofddpdgaaDoor.Q
open Go Go.RowKit Go.Proofs.YtkmpkcofddpdgaaDoorW.PrintWords Go.Proofs.YtkmpkcofddpdgaaDoorW.PrintMore
theorem ev_k {α : Type} {g : Nat → Option α} {r : α} (h : Ev (fun k => g (k + 1)) r) : Ev g r := Ev.step (fun _ => rfl) h
theorem ev_some {α : Type} {r s : α} (h : r = s) : Ev (fun _ => some r) s := h ▸ Ev.now r
theorem ev_pos {α : Type} {c : Prop} [Decidable c] {f g : Nat → Option α} {r : α} (h : c) (H : Ev f r) : Ev (fun k => if c then f k else g k) r :=
  Ev.congr (fun _ => if_pos h) H
theorem ev_neg {α : Type} {c : Prop} [Decidable c] {f g : Nat → Option α} {r : α} (h : ¬ c) (H : Ev g r) : Ev (fun k => if c then f k else g k) r :=
  Ev.congr (fun _ => if_neg h) H
theorem ev_ite {α : Type} {c : Prop} [Decidable c] {f g : Nat → Option α} {r : α} (h : c → Ev f r) (h' : ¬ c → Ev g r) : Ev (fun k => if c then f k else g k) r := by
  by_cases hc : c
  · exact ev_pos hc (h hc)
  · exact ev_neg hc (h' hc)
theorem ev_of {α : Type} {o : Option α} {r : α} (h : o = some r) : Ev (fun _ => o) r := ⟨0, fun _ _ => h⟩
theorem ev_bind0 {α β : Type} {o : Option α} {f : Nat → α → Option β} {a : α} {r : β} (h : o = some a) (H : Ev (fun n => f n a) r) : Ev (fun n => o.bind (f n)) r :=
  Ev.bind (ev_of h) H
theorem w64 {a : Int} (h0 : -9223372036854775808 ≤ a) (h1 : a < 9223372036854775808) : wrap64 a = a := by
  unfold wrap64
  omega
def Says (g : Nat → Option Bool) (P : Prop) : Prop := ∃ b : Bool, Ev g b ∧ (b = true ↔ P)
theorem says_iff {g : Nat → Option Bool} {P R : Prop} (h : P ↔ R) (H : Says g R) : Says g P := by
  obtain ⟨b, hb, e⟩ := H
  exact ⟨b, hb, e.trans h.symm⟩
theorem says_k {g : Nat → Option Bool} {P : Prop} (H : Says (fun k => g (k + 1)) P) : Says g P := by
  obtain ⟨b, hb, e⟩ := H
  exact ⟨b, ev_k hb, e⟩
theorem says_pos {c : Prop} [Decidable c] {f g : Nat → Option Bool} {P : Prop} (h : c) (H : Says f P) : Says (fun k => if c then f k else g k) P := by
  obtain ⟨b, hb, e⟩ := H
  exact ⟨b, ev_pos h hb, e⟩
theorem says_neg {c : Prop} [Decidable c] {f g : Nat → Option Bool} {P : Prop} (h : ¬ c) (H : Says g P) : Says (fun k => if c then f k else g k) P := by
  obtain ⟨b, hb, e⟩ := H
  exact ⟨b, ev_neg h hb, e⟩
theorem says_true {P : Prop} (h : P) : Says (fun _ => some true) P := ⟨true, Ev.now _, by simp [h]⟩
theorem says_false {P : Prop} (h : ¬ P) : Says (fun _ => some false) P := ⟨false, Ev.now _, by simp [h]⟩
theorem says_now (b : Bool) : Says (fun _ => some b) (b = true) := ⟨b, Ev.now _, Iff.rfl⟩
theorem says_bind {α : Type} {g : Nat → Option α} {f : Nat → α → Option Bool} {a : α} {P : Prop} (h : Ev g a) (H : Says (fun n => f n a) P) : Says (fun n => (g n).bind (f n)) P := by
  obtain ⟨b, hb, e⟩ := H
  exact ⟨b, Ev.bind h hb, e⟩
theorem Says.yes {g : Nat → Option Bool} {P : Prop} (H : Says g P) (h : P) : Ev g true := by
  obtain ⟨b, hb, e⟩ := H
  rw [e.2 h] at hb
  exact hb
theorem Says.no {g : Nat → Option Bool} {P : Prop} (H : Says g P) (h : ¬ P) : Ev g false := by
  obtain ⟨b, hb, e⟩ := H
  cases b with
  | true => exact absurd (e.1 rfl) h
  | false => exact hb
end Go.Proofs.YtkmpkcofddpdgaaDoor.Q
namespace Go.Proofs.YtkmpkcofddpdgaaDoor.Q
open Go Go.RowKit Go.Proofs.YtkmpkcofddpdgaaDoorW.PrintWords Go.Proofs.YtkmpkcofddpdgaaDoorW.PrintLast Go.Proofs.YtkmpkcofddpdgaaDoorW.PrintMore
def tb (x i : Int) : Bool := decide (x / 2 ^ i.toNat % 2 = 1)
theorem wu64 {a : Int} (h0 : 0 ≤ a) (h1 : a < 18446744073709551616) : IntKind.u64.wrap a = a := by
  simp [IntKind.wrap, IntKind.bits, IntKind.signed]
  omega
theorem w64' (a : Int) : IntKind.i64.wrap a = wrap64 a := by
  rw [IntKind.wrap_i64]
  unfold wrap64
  rfl
theorem and_one (a : Int) : bits .and .i64 a 1 = a % 2 := by
  have e : (BitVec.ofInt 64 a &&& BitVec.ofInt 64 1).toNat = (a % 2).toNat := by
    rw [BitVec.toNat_and, show (BitVec.ofInt 64 1).toNat = 1 from rfl, Nat.and_one_is_mod, BitVec.toNat_ofInt]
    omega
  show IntKind.i64.wrap (((BitVec.ofInt 64 a &&& BitVec.ofInt 64 1).toNat : Nat) : Int) = a % 2
  rw [e, w64']
  rw [w64] <;> omega
theorem shr_at {x i : Int} (i0 : 0 ≤ i) (i1 : i ≤ 63) : shr .i64 x i = x / 2 ^ i.toNat := by
  unfold shr
  rw [Nat.min_eq_left (by simp [IntKind.bits]; omega)]
theorem bit_at {x i : Int} (i0 : 0 ≤ i) (i1 : i ≤ 63) : bits .and .i64 (shr .i64 x i) 1 = if tb x i then 1 else 0 := by
  rw [and_one, shr_at i0 i1]
  unfold tb
  have := Int.emod_two_eq (x / 2 ^ i.toNat)
  rcases this with h | h <;> simp [h]
theorem bit_is {x i : Int} (i0 : 0 ≤ i) (i1 : i ≤ 63) : (bits .and .i64 (shr .i64 x i) 1 == 1) = tb x i := by
  rw [bit_at i0 i1]
  cases tb x i <;> rfl
theorem bit_eq {x y i j : Int} (i0 : 0 ≤ i) (i1 : i ≤ 63) (j0 : 0 ≤ j) (j1 : j ≤ 63) : bits .and .i64 (shr .i64 x i) 1 = bits .and .i64 (shr .i64 y j) 1 ↔ tb x i = tb y j := by
  rw [bit_at i0 i1, bit_at j0 j1]
  cases tb x i <;> cases tb y j <;> simp
theorem two_pow_le {n : Int} (h0 : 0 ≤ n) (h1 : n ≤ 62) : (1 : Int) ≤ 2 ^ n.toNat ∧ (2 : Int) ^ n.toNat ≤ 4611686018427387904 := by
  have e : ((2 : Int) ^ n.toNat) = ((2 ^ n.toNat : Nat) : Int) := by simp
  have a : 2 ^ n.toNat ≤ 2 ^ 62 := Nat.pow_le_pow_right (by decide) (by omega)
  have b : 1 ≤ 2 ^ n.toNat := Nat.one_le_two_pow
  rw [e]
  omega
theorem shl_one {n : Int} (h0 : 0 ≤ n) (h1 : n ≤ 62) : shl .i64 1 n = 2 ^ n.toNat := by
  have := two_pow_le h0 h1
  unfold shl
  rw [Nat.min_eq_left (by simp [IntKind.bits]; omega), Int.one_mul, w64', w64] <;> omega
theorem tb_nat (x i : Nat) : tb (x : Int) (i : Int) = x.testBit i := by
  unfold tb
  rw [Nat.testBit_eq_decide_div_mod_eq]
  have : ((x : Int) / 2 ^ i) % 2 = ((x / 2 ^ i % 2 : Nat) : Int) := by simp
  rw [Int.toNat_natCast, this]
  exact decide_eq_decide.2 (by omega)
theorem tb_toNat {x i : Int} (h0 : 0 ≤ x) (i0 : 0 ≤ i) : tb x i = x.toNat.testBit i.toNat := by
  rw [← tb_nat, Int.toNat_of_nonneg h0, Int.toNat_of_nonneg i0]
theorem tb_high {x i n : Int} (h0 : 0 ≤ x) (h1 : x < 2 ^ n.toNat) (n0 : 0 ≤ n) (hi : n ≤ i) : tb x i = false := by
  rw [tb_toNat h0 (by omega)]
  refine Nat.testBit_lt_two_pow ?_
  have e : ((2 : Int) ^ n.toNat) = ((2 ^ n.toNat : Nat) : Int) := by simp
  rw [e] at h1
  have : x.toNat < 2 ^ n.toNat := by omega
  exact Nat.lt_of_lt_of_le this (Nat.pow_le_pow_right (by decide) (by omega))
theorem tb_ext {x y n : Int} (x0 : 0 ≤ x) (x1 : x < 2 ^ n.toNat) (y0 : 0 ≤ y) (y1 : y < 2 ^ n.toNat) (n0 : 0 ≤ n) (h : ∀ i, 0 ≤ i → i < n → tb x i = tb y i) : x = y := by
  have : x.toNat = y.toNat := by
    refine Nat.eq_of_testBit_eq fun i => ?_
    by_cases hi : (i : Int) < n
    · have := h i (by omega) hi
      rwa [tb_toNat x0 (by omega), tb_toNat y0 (by omega), Int.toNat_natCast] at this
    · have a := tb_high (i := i) x0 x1 n0 (by omega)
      have b := tb_high (i := i) y0 y1 n0 (by omega)
      rw [tb_toNat x0 (by omega), Int.toNat_natCast] at a
      rw [tb_toNat y0 (by omega), Int.toNat_natCast] at b
      rw [a, b]
  omega
theorem and_nat (a b : Nat) (ha : a < 2 ^ 63) (hb : b < 2 ^ 63) : bits .and .i64 a b = ((a &&& b : Nat) : Int) :=
  (bits_nat .i64 63 (by decide) (fun n h0 h1 => by rw [w64', w64] <;> omega) a b ha hb).1
theorem or_nat (a b : Nat) (ha : a < 2 ^ 63) (hb : b < 2 ^ 63) : bits .or .i64 a b = ((a ||| b : Nat) : Int) :=
  (bits_nat .i64 63 (by decide) (fun n h0 h1 => by rw [w64', w64] <;> omega) a b ha hb).2
theorem uand_nat (a b : Nat) (ha : a < 2 ^ 64) (hb : b < 2 ^ 64) : bits .and .u64 a b = ((a &&& b : Nat) : Int) :=
  (bits_nat .u64 64 (by decide) (fun n h0 h1 => wu64 h0 (by omega)) a b ha hb).1
set_option linter.unusedVariables false in
theorem andNot_nat (a b : Nat) (ha : a < 2 ^ 63) (hb : b < 2 ^ 63) : ∃ c : Nat, bits .andNot .i64 a b = (c : Int) ∧ c < 2 ^ 63 ∧ ∀ i, c.testBit i = (a.testBit i && !b.testBit i) := by
  refine ⟨(BitVec.ofInt 64 a &&& ~~~ BitVec.ofInt 64 b).toNat, ?_, ?_, ?_⟩
  · show IntKind.i64.wrap (((BitVec.ofInt 64 a &&& ~~~ BitVec.ofInt 64 b).toNat : Nat) : Int) = _
    have : (BitVec.ofInt 64 a &&& ~~~ BitVec.ofInt 64 b).toNat < 2 ^ 63 := by
      simp only [BitVec.ofInt_natCast, BitVec.toNat_and, BitVec.toNat_ofNat]
      have : (a % 2 ^ 64 &&& (~~~ BitVec.ofNat 64 b).toNat) ≤ a % 2 ^ 64 := Nat.and_le_left
      have : a % 2 ^ 64 = a := Nat.mod_eq_of_lt (by omega)
      omega
    rw [w64', w64] <;> omega
  · simp only [BitVec.ofInt_natCast, BitVec.toNat_and, BitVec.toNat_ofNat]
    have : (a % 2 ^ 64 &&& (~~~ BitVec.ofNat 64 b).toNat) ≤ a % 2 ^ 64 := Nat.and_le_left
    have : a % 2 ^ 64 = a := Nat.mod_eq_of_lt (by omega)
    omega
  · intro i
    simp only [BitVec.ofInt_natCast]
    rw [BitVec.testBit_toNat, BitVec.getLsbD_and, BitVec.getLsbD_not, BitVec.getLsbD_ofNat, BitVec.getLsbD_ofNat]
    by_cases hi : i < 64
    · simp [hi]
    · simp [hi]
      intro h
      have := Nat.testBit_lt_two_pow (Nat.lt_of_lt_of_le ha (Nat.pow_le_pow_right (by decide) (show 63 ≤ i by omega)))
      simp [this] at h
end Go.Proofs.YtkmpkcofddpdgaaDoor.Q
namespace Go.Proofs.YtkmpkcofddpdgaaDoor.Q
open Go Go.RowKit Go.Proofs.YtkmpkcofddpdgaaDoorW.PrintWords
def rows (n : Int) (l : List Int) : Prop := 1 ≤ n ∧ n ≤ 62 ∧ (l.length : Int) = n ∧ ∀ v, 0 ≤ v → v < n → 0 ≤ rd l v ∧ rd l v < 2 ^ n.toNat
def isG (n : Int) (l : List Int) : Prop := rows n l ∧ (∀ v, 0 ≤ v → v < n → tb (rd l v) v = false) ∧ ∀ v w, 0 ≤ v → v < n → 0 ≤ w → w < n → tb (rd l v) w = tb (rd l w) v
theorem rows.nat {n : Int} {l : List Int} (h : rows n l) {v : Int} (h0 : 0 ≤ v) (h1 : v < n) : ∃ x : Nat, rd l v = (x : Int) ∧ x < 2 ^ n.toNat ∧ x < 2 ^ 62 := by
  obtain ⟨a, b, c, d⟩ := h
  obtain ⟨d0, d1⟩ := d v h0 h1
  have e : ((2 : Int) ^ n.toNat) = ((2 ^ n.toNat : Nat) : Int) := by simp
  have p : 2 ^ n.toNat ≤ 2 ^ 62 := Nat.pow_le_pow_right (by decide) (by omega)
  rw [e] at d1
  exact ⟨(rd l v).toNat, by omega, by omega, by omega⟩
end Go.Proofs.YtkmpkcofddpdgaaDoor.Q
namespace Go.Proofs.YtkmpkcofddpdgaaDoor.Q
open Go Go.RowKit Go.Proofs.YtkmpkcofddpdgaaDoorW.PrintWords Go.Proofs.YtkmpkcofddpdgaaDoorW.PrintMore
def Mx (n : Int) (l : List Int) (P : Int → Int → Prop) : Prop := (l.length : Int) = n ∧ ∀ v, 0 ≤ v → v < n → (0 ≤ rd l v ∧ rd l v < 2 ^ n.toNat) ∧ ∀ w, 0 ≤ w → w < n → (tb (rd l v) w = true ↔ P v w)
theorem Mx.imp {n : Int} {l : List Int} {P Q : Int → Int → Prop} (h : Mx n l P) (e : ∀ v w, 0 ≤ v → v < n → 0 ≤ w → w < n → (P v w ↔ Q v w)) : Mx n l Q :=
  ⟨h.1, fun v v0 v1 => ⟨(h.2 v v0 v1).1, fun w w0 w1 => ((h.2 v v0 v1).2 w w0 w1).trans (e v w v0 v1 w0 w1)⟩⟩
theorem rd_ext {a b : List Int} (hl : a.length = b.length) (h : ∀ v : Int, 0 ≤ v → v < a.length → rd a v = rd b v) : a = b := by
  refine List.ext_getElem hl fun i h1 h2 => ?_
  have := h i (by omega) (by omega)
  simpa [rd, List.getD_eq_getElem?_getD, h1, h2] using this
theorem Mx.eq {n : Int} {a b : List Int} {P : Int → Int → Prop} (ha : Mx n a P) (hb : Mx n b P) (n0 : 0 ≤ n) : a = b := by
  refine rd_ext (by have := ha.1; have := hb.1; omega) fun v v0 v1 => ?_
  have v1 : v < n := by have := ha.1; omega
  obtain ⟨⟨a0, a1⟩, a2⟩ := ha.2 v v0 v1
  obtain ⟨⟨b0, b1⟩, b2⟩ := hb.2 v v0 v1
  exact tb_ext a0 a1 b0 b1 n0 fun i i0 i1 => Bool.eq_iff_iff.2 ((a2 i i0 i1).trans (b2 i i0 i1).symm)
theorem Mx.zero (n : Int) (n0 : 0 ≤ n) : Mx n (List.replicate n.toNat 0) (fun _ _ => False) := by
  refine ⟨by simp; omega, fun v v0 v1 => ?_⟩
  have e : rd (List.replicate n.toNat 0) v = 0 := by
    have : v.toNat < n.toNat := by omega
    simp [rd, List.getD_eq_getElem?_getD, this]
  rw [e]
  have p : (0 : Int) < 2 ^ n.toNat := Int.pow_pos (by decide)
  refine ⟨⟨by omega, p⟩, fun w w0 w1 => ?_⟩
  simp [tb]
theorem Mx.rows {n : Int} {l : List Int} {P : Int → Int → Prop} (h : Mx n l P) (n1 : 1 ≤ n) (n2 : n ≤ 62) : rows n l := ⟨n1, n2, h.1, fun v v0 v1 => (h.2 v v0 v1).1⟩
theorem mx_of {n : Int} {l : List Int} (h : rows n l) : Mx n l (fun v w => tb (rd l v) w = true) := ⟨h.2.2.1, fun v v0 v1 => ⟨h.2.2.2 v v0 v1, fun _ _ _ => Iff.rfl⟩⟩
theorem rd_set {l : List Int} {i j : Int} (x : Int) (i0 : 0 ≤ i) (i1 : i < l.length) (j0 : 0 ≤ j) : rd (l.set i.toNat x) j = if j = i then x else rd l j := by
  simp only [rd, List.getD_eq_getElem?_getD, List.getElem?_set]
  by_cases h : j = i
  · subst h
    rw [if_pos rfl, if_pos rfl, if_pos (by omega)]
    rfl
  · rw [if_neg h, if_neg (by omega)]
theorem or_one {n x j : Int} (n2 : n ≤ 62) (x0 : 0 ≤ x) (x1 : x < 2 ^ n.toNat) (j0 : 0 ≤ j) (j1 : j < n) : (0 ≤ bits .or .i64 x (shl .i64 1 j) ∧ bits .or .i64 x (shl .i64 1 j) < 2 ^ n.toNat) ∧ ∀ w, 0 ≤ w → (tb (bits .or .i64 x (shl .i64 1 j)) w = true ↔ tb x w = true ∨ w = j) := by
  have e : ((2 : Int) ^ n.toNat) = ((2 ^ n.toNat : Nat) : Int) := by simp
  have p : 2 ^ n.toNat ≤ 2 ^ 62 := Nat.pow_le_pow_right (by decide) (by omega)
  have q : 2 ^ j.toNat < 2 ^ n.toNat := Nat.pow_lt_pow_right (by decide) (by omega)
  rw [e] at x1 ⊢
  obtain ⟨y, rfl⟩ := Int.eq_ofNat_of_zero_le x0
  rw [shl_one j0 (by omega), show ((2 : Int) ^ j.toNat) = ((2 ^ j.toNat : Nat) : Int) by simp, or_nat y (2 ^ j.toNat) (by omega) (by omega)]
  refine ⟨⟨by omega, ?_⟩, fun w w0 => ?_⟩
  · have := Nat.or_lt_two_pow (show y < 2 ^ n.toNat by omega) q
    omega
  · obtain ⟨w, rfl⟩ := Int.eq_ofNat_of_zero_le w0
    rw [tb_nat, tb_nat, Nat.testBit_or, Nat.testBit_two_pow]
    simp only [Bool.or_eq_true, decide_eq_true_eq]
    refine or_congr Iff.rfl ?_
    omega
theorem Mx.or {n : Int} {l : List Int} {P : Int → Int → Prop} (h : Mx n l P) (n2 : n ≤ 62) {i j : Int} (i0 : 0 ≤ i) (i1 : i < n) (j0 : 0 ≤ j) (j1 : j < n) : Mx n (l.set i.toNat (bits .or .i64 (rd l i) (shl .i64 1 j))) (fun v w => P v w ∨ (v = i ∧ w = j)) := by
  refine ⟨by simpa using h.1, fun v v0 v1 => ?_⟩
  rw [rd_set _ i0 (by have := h.1; omega) v0]
  obtain ⟨⟨a0, a1⟩, a2⟩ := h.2 v v0 v1
  by_cases hv : v = i
  · rw [if_pos hv]
    subst hv
    obtain ⟨b, b2⟩ := or_one n2 a0 a1 j0 j1
    exact ⟨b, fun w w0 w1 => (b2 w w0).trans (or_congr (a2 w w0 w1) (by simp))⟩
  · rw [if_neg hv]
    exact ⟨⟨a0, a1⟩, fun w w0 w1 => (a2 w w0 w1).trans (by simp [hv])⟩
end Go.Proofs.YtkmpkcofddpdgaaDoor.Q
namespace Go.Proofs.YtkmpkcofddpdgaaDoor.Q
open Go Go.RowKit Go.Proofs.YtkmpkcofddpdgaaDoorW.PrintWords Go.Proofs.YtkmpkcofddpdgaaDoorW.PrintMore
def Wk (n : Int) (l : List Int) (s : Int) : Nat → Int → Prop
  | 0, u => u = s
  | k + 1, u => (0 ≤ u ∧ u < n) ∧ ∃ w, (0 ≤ w ∧ w < n) ∧ Wk n l s k w ∧ tb (rd l w) u = true
def Ds (n : Int) (l : List Int) (s : Int) (d : Nat) (u : Int) : Prop := Wk n l s d u ∧ ∀ j, j < d → ¬ Wk n l s j u
theorem Ds.uniq {n : Int} {l : List Int} {s u : Int} {d e : Nat} (h : Ds n l s d u) (g : Ds n l s e u) : d = e := by
  rcases Nat.lt_trichotomy d e with z | z | z
  · exact absurd h.1 (g.2 d z)
  · exact z
  · exact absurd g.1 (h.2 e z)
theorem Wk.range {n : Int} {l : List Int} {s : Int} (s0 : 0 ≤ s) (s1 : s < n) {k : Nat} {u : Int} (h : Wk n l s k u) : 0 ≤ u ∧ u < n := by
  cases k with
  | zero => cases h; exact ⟨s0, s1⟩
  | succ k => exact h.1
theorem Wk.least {n : Int} {l : List Int} {s u : Int} (k : Nat) (h : Wk n l s k u) : ∃ d, d ≤ k ∧ Ds n l s d u := by
  induction k using Nat.strongRecOn with
  | _ k ih =>
    by_cases hj : ∃ j, j < k ∧ Wk n l s j u
    · obtain ⟨j, hj, hw⟩ := hj
      obtain ⟨d, hd, h2⟩ := ih j hj hw
      exact ⟨d, by omega, h2⟩
    · exact ⟨k, Nat.le_refl _, h, fun j hj' hw => hj ⟨j, hj', hw⟩⟩
theorem Ds.ahead {n : Int} {l : List Int} {s u : Int} {d : Nat} (h : Ds n l s (d + 1) u) : ∃ w, (0 ≤ w ∧ w < n) ∧ Ds n l s d w ∧ tb (rd l w) u = true := by
  obtain ⟨⟨hu, w, hw, hk, ht⟩, hm⟩ := h
  refine ⟨w, hw, ⟨hk, fun j hj hwj => hm (j + 1) (by omega) ⟨hu, w, hw, hwj, ht⟩⟩, ht⟩
theorem Ds.stops {n : Int} {l : List Int} {s : Int} {d : Nat} (h : ∀ w, ¬ Ds n l s d w) : ∀ e, d ≤ e → ∀ u, ¬ Ds n l s e u := by
  intro e he
  induction e with
  | zero =>
    obtain rfl : d = 0 := by omega
    exact h
  | succ e ih =>
    by_cases z : d = e + 1
    · subst z
      exact h
    · intro u hu
      obtain ⟨w, _, hw, _⟩ := hu.ahead
      exact ih (by omega) w hw
theorem Ds.next {n : Int} {l : List Int} {s u : Int} {d : Nat} (hu : 0 ≤ u ∧ u < n) : Ds n l s (d + 1) u ↔ (∃ w, (0 ≤ w ∧ w < n) ∧ Ds n l s d w ∧ tb (rd l w) u = true) ∧ ¬ ∃ j, j ≤ d ∧ Wk n l s j u := by
  constructor
  · intro h
    exact ⟨h.ahead, fun ⟨j, hj, hw⟩ => h.2 j (by omega) hw⟩
  · rintro ⟨⟨w, hw, hd, ht⟩, hno⟩
    exact ⟨⟨hu, w, hw, hd.1, ht⟩, fun j hj hwj => hno ⟨j, by omega, hwj⟩⟩
def DistL (n : Int) (l : List Int) (s : Int) (ds : List Int) : Prop := (ds.length : Int) = n ∧ ∀ u, 0 ≤ u → u < n → (rd ds u = -1 ∧ ∀ j, ¬ Wk n l s j u) ∨ ∃ d : Nat, rd ds u = (d : Int) ∧ Ds n l s d u
theorem DistL.eq {n : Int} {l : List Int} {s : Int} {a b : List Int} (ha : DistL n l s a) (hb : DistL n l s b) : a = b := by
  refine rd_ext (by have := ha.1; have := hb.1; omega) fun v v0 v1 => ?_
  have v1 : v < n := by have := ha.1; omega
  rcases ha.2 v v0 v1 with ⟨e, h⟩ | ⟨d, e, h⟩ <;> rcases hb.2 v v0 v1 with ⟨f, g⟩ | ⟨c, f, g⟩
  · rw [e, f]
  · exact absurd g.1 (h c)
  · exact absurd h.1 (g d)
  · rw [e, f, h.uniq g]
theorem Ds.zero (n : Int) (l : List Int) (s u : Int) : Ds n l s 0 u ↔ u = s := ⟨fun h => h.1, fun h => ⟨h, fun j hj => by omega⟩⟩
theorem Wk.front {n : Int} {l : List Int} {s w : Int} (hs : 0 ≤ s ∧ s < n) (hw : 0 ≤ w ∧ w < n) (ht : tb (rd l s) w = true) : ∀ (k : Nat) (u : Int), Wk n l w k u → Wk n l s (k + 1) u := by
  intro k
  induction k with
  | zero =>
    intro u hu
    cases hu
    exact ⟨hw, s, hs, rfl, ht⟩
  | succ k ih =>
    rintro u ⟨hu, x, hx, hk, hx2⟩
    exact ⟨hu, x, hx, ih x hk, hx2⟩
theorem Wk.back {n : Int} {l : List Int} (hg : ∀ v w, 0 ≤ v → v < n → 0 ≤ w → w < n → tb (rd l v) w = tb (rd l w) v) {s : Int} : ∀ (k : Nat) (u : Int), Wk n l s k u → Wk n l u k s := by
  intro k
  induction k with
  | zero => intro u hu; exact hu.symm
  | succ k ih =>
    rintro u ⟨hu, w, hw, hk, ht⟩
    exact Wk.front hu hw (by rw [hg u w hu.1 hu.2 hw.1 hw.2]; exact ht) k s (ih w hk)
theorem Ds.back {n : Int} {l : List Int} (hg : ∀ v w, 0 ≤ v → v < n → 0 ≤ w → w < n → tb (rd l v) w = tb (rd l w) v) {s u : Int} {d : Nat} (h : Ds n l s d u) : Ds n l u d s :=
  ⟨Wk.back hg d u h.1, fun j hj hw => h.2 j hj (Wk.back hg j s hw)⟩
structure Dist (n : Int) (l : List Int) (s : Int) (r : List Int) : Prop where
  len : (r.length : Int) = n
  src : ∀ u, 0 ≤ u → u < n → (rd r u = 0 ↔ u = s)
  next : ∀ (d u : Int), 0 ≤ d → 0 ≤ u → u < n → (rd r u = d + 1 ↔ (∃ w, (0 ≤ w ∧ w < n) ∧ rd r w = d ∧ tb (rd l w) u = true) ∧ ¬ (0 ≤ rd r u ∧ rd r u ≤ d))
  low : ∀ u, 0 ≤ u → u < n → -1 ≤ rd r u
  stops : ∀ d, 0 ≤ d → (∀ u, 0 ≤ u → u < n → rd r u ≠ d) → ∀ u, 0 ≤ u → u < n → rd r u < d
theorem DistL.ds {n : Int} {l : List Int} {s : Int} {r : List Int} (h : DistL n l s r) {u : Int} (u0 : 0 ≤ u) (u1 : u < n) (d : Nat) : rd r u = (d : Int) ↔ Ds n l s d u := by
  rcases h.2 u u0 u1 with ⟨e, g⟩ | ⟨c, e, g⟩
  · exact ⟨fun z => by omega, fun z => absurd z.1 (g d)⟩
  · constructor
    · intro z
      have : c = d := by omega
      exact this ▸ g
    · intro z
      rw [e, g.uniq z]
theorem DistL.met {n : Int} {l : List Int} {s : Int} {r : List Int} (h : DistL n l s r) {u : Int} (u0 : 0 ≤ u) (u1 : u < n) (d : Nat) : (0 ≤ rd r u ∧ rd r u ≤ (d : Int)) ↔ ∃ j, j ≤ d ∧ Wk n l s j u := by
  constructor
  · intro z
    have := (h.ds u0 u1 (rd r u).toNat).1 (by omega)
    exact ⟨(rd r u).toNat, by omega, this.1⟩
  · rintro ⟨j, hj, hw⟩
    obtain ⟨c, hc, hd⟩ := hw.least
    have := (h.ds u0 u1 c).2 hd
    omega
theorem DistL.dist {n : Int} {l : List Int} {s : Int} {r : List Int} (h : DistL n l s r) : Dist n l s r where
  len := h.1
  src := fun u u0 u1 => (h.ds u0 u1 0).trans (Ds.zero n l s u)
  next := fun d u d0 u0 u1 => by
    obtain ⟨d, rfl⟩ := Int.eq_ofNat_of_zero_le d0
    have a := h.ds u0 u1 (d + 1)
    rw [show ((d + 1 : Nat) : Int) = (d : Int) + 1 by omega] at a
    rw [a, Ds.next ⟨u0, u1⟩, h.met u0 u1]
    refine and_congr ⟨?_, ?_⟩ Iff.rfl
    · rintro ⟨w, hw, hd, ht⟩
      exact ⟨w, hw, (h.ds hw.1 hw.2 d).2 hd, ht⟩
    · rintro ⟨w, hw, hd, ht⟩
      exact ⟨w, hw, (h.ds hw.1 hw.2 d).1 hd, ht⟩
  low := fun u u0 u1 => by
    rcases h.2 u u0 u1 with ⟨e, _⟩ | ⟨c, e, _⟩ <;> omega
  stops := fun d d0 hd u u0 u1 => by
    obtain ⟨d, rfl⟩ := Int.eq_ofNat_of_zero_le d0
    rcases h.2 u u0 u1 with ⟨e, _⟩ | ⟨c, e, g⟩
    · omega
    · by_cases z : c < d
      · omega
      · refine absurd g ?_
        refine Ds.stops (d := d) (fun w hw => ?_) c (by omega) u
        have hr : 0 ≤ w ∧ w < n := by
          cases d with
          | zero =>
            have hs : w = s := hw.1
            by_cases hc : 0 ≤ s ∧ s < n
            · rw [hs]; exact hc
            · exfalso
              have key : ∀ (c : Nat) (u : Int), 0 ≤ u → u < n → ¬ Ds n l s c u := by
                intro c
                induction c with
                | zero => intro u u0 u1 z; have : u = s := z.1; exact hc ⟨by omega, by omega⟩
                | succ c ih => intro u u0 u1 z; obtain ⟨w, hw, hd, _⟩ := z.ahead; exact ih w hw.1 hw.2 hd
              exact key c u u0 u1 g
          | succ d => exact hw.1.1
        exact hd w hr.1 hr.2 ((h.ds hr.1 hr.2 d).2 hw)
open Classical in
theorem distL_exists (n : Int) (l : List Int) (s : Int) (n0 : 0 ≤ n) : ∃ r, DistL n l s r := by
  let f : Nat → Int := fun u => if h : ∃ d : Nat, Ds n l s d (u : Int) then (h.choose : Int) else -1
  refine ⟨(List.range n.toNat).map f, by simp; omega, fun u u0 u1 => ?_⟩
  have e : rd ((List.range n.toNat).map f) u = f u.toNat := by
    have : u.toNat < n.toNat := by omega
    simp [rd, List.getD_eq_getElem?_getD, this]
  rw [e]
  have hu : ((u.toNat : Nat) : Int) = u := Int.toNat_of_nonneg u0
  show _ ∨ _
  by_cases h : ∃ d : Nat, Ds n l s d ((u.toNat : Nat) : Int)
  · refine .inr ⟨h.choose, dif_pos h, ?_⟩
    have go : ∀ (c : Nat) (z : Int), z = u → Ds n l s c z → Ds n l s c u := fun c z e h => e ▸ h
    exact go _ _ hu h.choose_spec
  · refine .inl ⟨dif_neg h, fun j hj => h ?_⟩
    obtain ⟨d, _, hd⟩ := hj.least
    exact ⟨d, by rwa [hu]⟩
theorem length_of_all (K : Nat) : ∀ xs : List Nat, (∀ d, d < K → d ∈ xs) → K ≤ xs.length := by
  induction K with
  | zero => intro xs _; omega
  | succ K ih =>
    intro xs h
    have hm := h K (by omega)
    have := ih (xs.erase K) fun d hd => (List.mem_erase_of_ne (by omega)).2 (h d (by omega))
    have := List.length_erase_of_mem hm
    have := List.length_pos_of_mem hm
    omega
theorem Dist.level {n : Int} {l : List Int} {s : Int} {r : List Int} (h : Dist n l s r) (D : Nat) : ∀ u, 0 ≤ u → u < n → rd r u = (D : Int) → ∀ d, d ≤ D → ∃ w, (0 ≤ w ∧ w < n) ∧ rd r w = (d : Int) := by
  induction D with
  | zero => intro u u0 u1 hu d hd; exact ⟨u, ⟨u0, u1⟩, by rw [hu]; omega⟩
  | succ D ih =>
    intro u u0 u1 hu d hd
    by_cases e : d = D + 1
    · exact ⟨u, ⟨u0, u1⟩, by rw [hu, e]⟩
    · obtain ⟨⟨w, hw, hd', _⟩, _⟩ := (h.next D u (by omega) u0 u1).1 (by rw [hu]; omega)
      exact ih w hw.1 hw.2 hd' d (by omega)
theorem Dist.small {n : Int} {l : List Int} {s : Int} {r : List Int} (h : Dist n l s r) : ∀ u, 0 ≤ u → u < n → rd r u < n := by
  intro u u0 u1
  by_cases z : rd r u < 0
  · omega
  · have lv := h.level (rd r u).toNat u u0 u1 (by omega)
    have := length_of_all ((rd r u).toNat + 1) (r.map Int.toNat) fun d hd => by
      obtain ⟨w, hw, e⟩ := lv d (by omega)
      have hl := h.len
      have hwl : w.toNat < r.length := by omega
      have e2 : rd r w = r[w.toNat] := by simp [rd, List.getD_eq_getElem?_getD, List.getElem?_eq_getElem hwl]
      exact List.mem_map.2 ⟨r[w.toNat], List.getElem_mem _, by rw [← e2, e]; omega⟩
    rw [List.length_map] at this
    have := h.len
    omega
end Go.Proofs.YtkmpkcofddpdgaaDoor.Q
namespace Go.Proofs.YtkmpkcofddpdgaaDoor.Q
open Go Go.RowKit Go.Proofs.YtkmpkcofddpdgaaDoorW.PrintWords Go.Proofs.YtkmpkcofddpdgaaDoorW.PrintMore
open Classical in
noncomputable def dist (n : Int) (l : List Int) (s : Int) : List Int := if h : 0 ≤ n then (distL_exists n l s h).choose else []
theorem distL (n : Int) (l : List Int) (s : Int) (n0 : 0 ≤ n) : DistL n l s (dist n l s) := by
  unfold dist
  rw [dif_pos n0]
  exact (distL_exists n l s n0).choose_spec
theorem dist_of (n : Int) (l : List Int) (s : Int) (n0 : 0 ≤ n) : Dist n l s (dist n l s) := (distL n l s n0).dist
theorem dist_sym {n : Int} {l : List Int} (h : isG n l) {v u : Int} (v0 : 0 ≤ v) (v1 : v < n) (u0 : 0 ≤ u) (u1 : u < n) : rd (dist n l v) u = rd (dist n l u) v := by
  have n0 : 0 ≤ n := by omega
  have hg : ∀ v w, 0 ≤ v → v < n → 0 ≤ w → w < n → tb (rd l v) w = tb (rd l w) v := fun v w a b c d => h.2.2 v w a b c d
  have a := distL n l v n0
  have b := distL n l u n0
  rcases a.2 u u0 u1 with ⟨e, z⟩ | ⟨d, e, z⟩
  · rcases b.2 v v0 v1 with ⟨f, y⟩ | ⟨d, f, y⟩
    · rw [e, f]
    · exact absurd (Wk.back hg d v y.1) (z d)
  · rw [e, (b.ds v0 v1 d).2 (z.back hg)]
end Go.Proofs.YtkmpkcofddpdgaaDoor.Q
namespace Go.Proofs.YtkmpkcofddpdgaaDoor.Q
open Go Go.RowKit Go.Proofs.YtkmpkcofddpdgaaDoorW.PrintWords Go.Proofs.YtkmpkcofddpdgaaDoorW.PrintMore
def Rw (n x : Int) : Prop := 0 ≤ x ∧ x < 2 ^ n.toNat
theorem Rw.nat {n x : Int} (n2 : n ≤ 62) (h : Rw n x) : ∃ y : Nat, x = (y : Int) ∧ y < 2 ^ n.toNat ∧ y < 2 ^ 62 := by
  obtain ⟨h0, h1⟩ := h
  have e : ((2 : Int) ^ n.toNat) = ((2 ^ n.toNat : Nat) : Int) := by simp
  have p : 2 ^ n.toNat ≤ 2 ^ 62 := Nat.pow_le_pow_right (by decide) (by omega)
  rw [e] at h1
  exact ⟨x.toNat, by omega, by omega, by omega⟩
theorem Rw.of {n : Int} {y : Nat} (h : y < 2 ^ n.toNat) : Rw n (y : Int) := by
  have e : ((2 : Int) ^ n.toNat) = ((2 ^ n.toNat : Nat) : Int) := by simp
  exact ⟨by omega, by rw [e]; omega⟩
theorem or_rw {n x y : Int} (n2 : n ≤ 62) (hx : Rw n x) (hy : Rw n y) : Rw n (bits .or .i64 x y) ∧ ∀ w, 0 ≤ w → (tb (bits .or .i64 x y) w = true ↔ tb x w = true ∨ tb y w = true) := by
  obtain ⟨a, rfl, a1, a2⟩ := hx.nat n2
  obtain ⟨b, rfl, b1, b2⟩ := hy.nat n2
  rw [or_nat a b (by omega) (by omega)]
  refine ⟨Rw.of (Nat.or_lt_two_pow a1 b1), fun w w0 => ?_⟩
  obtain ⟨w, rfl⟩ := Int.eq_ofNat_of_zero_le w0
  rw [tb_nat, tb_nat, tb_nat, Nat.testBit_or]
  simp
theorem andNot_rw {n x y : Int} (n2 : n ≤ 62) (hx : Rw n x) (hy : Rw n y) : Rw n (bits .andNot .i64 x y) ∧ ∀ w, 0 ≤ w → (tb (bits .andNot .i64 x y) w = true ↔ tb x w = true ∧ ¬ tb y w = true) := by
  obtain ⟨a, rfl, a1, a2⟩ := hx.nat n2
  obtain ⟨b, rfl, b1, b2⟩ := hy.nat n2
  obtain ⟨c, e, _, hc⟩ := andNot_nat a b (by omega) (by omega)
  rw [e]
  have c1 : c < 2 ^ n.toNat := by
    refine Nat.lt_pow_two_of_testBit _ fun i hi => ?_
    rw [hc, Nat.testBit_lt_two_pow (Nat.lt_of_lt_of_le a1 (Nat.pow_le_pow_right (by decide) hi))]
    rfl
  refine ⟨Rw.of c1, fun w w0 => ?_⟩
  obtain ⟨w, rfl⟩ := Int.eq_ofNat_of_zero_le w0
  rw [tb_nat, tb_nat, tb_nat, hc]
  simp
theorem and_split (k : Nat) : ∀ x s : Nat, x < 2 ^ k → ∃ y, x = (x &&& s) + y ∧ ∀ i, y.testBit i = (x.testBit i && !s.testBit i) := by
  induction k with
  | zero => intro x s h; obtain rfl : x = 0 := by omega
            exact ⟨0, by simp, by simp⟩
  | succ k ih =>
    intro x s h
    rw [Nat.pow_succ] at h
    obtain ⟨y, e, hy⟩ := ih (x / 2) (s / 2) (by omega)
    have d2 : (x &&& s) / 2 = x / 2 &&& s / 2 := Nat.and_div_two
    have m2 : (x &&& s) % 2 = 1 ↔ x % 2 = 1 ∧ s % 2 = 1 := Nat.and_mod_two_eq_one
    refine ⟨2 * y + (if x % 2 = 1 ∧ ¬ s % 2 = 1 then 1 else 0), ?_, fun i => ?_⟩
    · split <;> omega
    · cases i with
      | zero =>
        rw [Nat.testBit_zero, Nat.testBit_zero, Nat.testBit_zero]
        split
        · rename_i z
          rw [show (2 * y + 1) % 2 = 1 by omega]
          simp [z.1, z.2]
        · rename_i z
          rw [show (2 * y + 0) % 2 = 0 by omega]
          clear d2 m2 e hy ih h
          by_cases a : x % 2 = 1 <;> by_cases b : s % 2 = 1
          · rw [decide_eq_true a, decide_eq_true b]; rfl
          · exact absurd ⟨a, b⟩ z
          · rw [decide_eq_false a, decide_eq_true b]; rfl
          · rw [decide_eq_false a, decide_eq_false b]; rfl
      | succ i =>
        rw [Nat.testBit_succ, Nat.testBit_succ, Nat.testBit_succ, ← hy]
        congr 1
        split <;> omega
theorem minus_and {n x y : Int} (n2 : n ≤ 62) (hx : Rw n x) (hy : Rw n y) : Rw n (wrap64 (x - bits .and .i64 x y)) ∧ ∀ w, 0 ≤ w → (tb (wrap64 (x - bits .and .i64 x y)) w = true ↔ tb x w = true ∧ ¬ tb y w = true) := by
  obtain ⟨a, rfl, a1, a2⟩ := hx.nat n2
  obtain ⟨b, rfl, b1, b2⟩ := hy.nat n2
  rw [and_nat a b (by omega) (by omega)]
  obtain ⟨c, e, hc⟩ := and_split 62 a b a2
  rw [show (a : Int) - ((a &&& b : Nat) : Int) = (c : Int) by omega, w64 (by omega) (by omega)]
  refine ⟨Rw.of (by omega), fun w w0 => ?_⟩
  obtain ⟨w, rfl⟩ := Int.eq_ofNat_of_zero_le w0
  rw [tb_nat, tb_nat, tb_nat, hc]
  simp
theorem one_rw {n j : Int} (n2 : n ≤ 62) (j0 : 0 ≤ j) (j1 : j < n) : Rw n (shl .i64 1 j) ∧ ∀ w, 0 ≤ w → (tb (shl .i64 1 j) w = true ↔ w = j) := by
  rw [shl_one j0 (by omega), show ((2 : Int) ^ j.toNat) = ((2 ^ j.toNat : Nat) : Int) by simp]
  refine ⟨Rw.of (Nat.pow_lt_pow_right (by decide) (by omega)), fun w w0 => ?_⟩
  obtain ⟨w, rfl⟩ := Int.eq_ofNat_of_zero_le w0
  rw [tb_nat, Nat.testBit_two_pow]
  simp
  omega
theorem zero_rw (n : Int) : Rw n 0 ∧ ∀ w, ¬ tb 0 w = true := by
  have p : (0 : Int) < 2 ^ n.toNat := Int.pow_pos (by decide)
  exact ⟨⟨by omega, p⟩, fun w => by simp [tb]⟩
theorem Rw.eq_zero {n x : Int} (n0 : 0 ≤ n) (hx : Rw n x) : x = 0 ↔ ∀ w, 0 ≤ w → w < n → ¬ tb x w = true := by
  constructor
  · rintro rfl w _ _
    exact (zero_rw n).2 w
  · intro h
    exact tb_ext hx.1 hx.2 (zero_rw n).1.1 (zero_rw n).1.2 n0 fun i i0 i1 => by
      have a := h i i0 i1
      have b := (zero_rw n).2 i
      simp at a b
      rw [a, b]
end Go.Proofs.YtkmpkcofddpdgaaDoor.Q
namespace Go.Proofs.YtkmpkcofddpdgaaDoor.Q
open Go Go.RowKit Go.Proofs.YtkmpkcofddpdgaaDoor.P Go.Proofs.YtkmpkcofddpdgaaDoorW.PrintWords Go.Proofs.YtkmpkcofddpdgaaDoorW.PrintMore
def onesFrom (x : Nat) : Nat → Nat → List Int
  | 0, _ => []
  | d + 1, m => if x.testBit m then (m : Int) :: onesFrom x d (m + 1) else onesFrom x d (m + 1)
theorem onesFrom_zero (d : Nat) : ∀ m, onesFrom 0 d m = [] := by
  induction d with
  | zero => intro m; rfl
  | succ d ih => intro m; simp [onesFrom, ih]
theorem onesFrom_congr (x y : Nat) (d : Nat) : ∀ m, (∀ i, m ≤ i → x.testBit i = y.testBit i) → onesFrom x d m = onesFrom y d m := by
  induction d with
  | zero => intro m _; rfl
  | succ d ih =>
    intro m h
    simp only [onesFrom]
    rw [h m (Nat.le_refl _), ih (m + 1) fun i hi => h i (by omega)]
theorem ctz_at {x m : Nat} (hx : x < 2 ^ 64) (hb : x.testBit m = true) (hl : ∀ i, i < m → x.testBit i = false) : Lib.ctz 64 x = m ∧ ∃ q, x = 2 ^ m * (2 * q + 1) := by
  have h0 : x ≠ 0 := by rintro rfl; simp at hb
  obtain ⟨q, e, _⟩ := Lib.ctzFrom_spec 64 x (by omega) hx
  have ec : Lib.ctz 64 x = Lib.ctzFrom 64 x := by simp [Lib.ctz, h0]
  have ht : ∀ i, x.testBit i = (decide (i ≥ Lib.ctzFrom 64 x) && (2 * q + 1).testBit (i - Lib.ctzFrom 64 x)) := fun i => by rw [← Nat.testBit_two_pow_mul, ← e]
  generalize Lib.ctzFrom 64 x = c at *
  have hc : c = m := by
    rcases Nat.lt_trichotomy c m with h | h | h
    · have a := hl c h
      rw [ht c] at a
      simp at a
    · exact h
    · rw [ht m] at hb
      have : ¬ m ≥ c := by omega
      simp [this] at hb
  subst hc
  exact ⟨ec, q, e⟩
theorem and_pred {m q : Nat} : (2 ^ m * (2 * q + 1)) &&& (2 ^ m * (2 * q + 1) - 1) = 2 ^ m * (2 * q) := by
  have p := Nat.two_pow_pos m
  have e : 2 ^ m * (2 * q + 1) - 1 = 2 ^ m * (2 * q) + (2 ^ m - 1) := by rw [Nat.mul_add]; omega
  rw [e]
  refine Nat.eq_of_testBit_eq fun i => ?_
  rw [Nat.testBit_and, Nat.testBit_two_pow_mul, Nat.testBit_two_pow_mul_add _ (by omega), Nat.testBit_two_pow_mul]
  by_cases h : i < m
  · have : ¬ i ≥ m := by omega
    simp [this]
  · have : i ≥ m := by omega
    simp only [this, decide_true, Bool.true_and, h, if_false]
    cases i - m with
    | zero => simp
    | succ j => simp [Nat.testBit_succ]; rw [show (2 * q + 1) / 2 = q by omega]; simp
theorem pred_bit {m q i : Nat} (h : m < i) : (2 ^ m * (2 * q)).testBit i = (2 ^ m * (2 * q + 1)).testBit i := by
  rw [Nat.testBit_two_pow_mul, Nat.testBit_two_pow_mul]
  obtain ⟨j, hj⟩ : ∃ j, i - m = j + 1 := ⟨i - m - 1, by omega⟩
  rw [hj, Nat.testBit_succ, Nat.testBit_succ, show (2 * q + 1) / 2 = 2 * q / 2 by omega]
theorem pred_low {m q i : Nat} (h : i < m + 1) : (2 ^ m * (2 * q)).testBit i = false := by
  rw [Nat.testBit_two_pow_mul]
  by_cases e : i = m
  · subst e
    simp
  · have : ¬ i ≥ m := by omega
    simp [this]
theorem i_list_l0 (d : Nat) : ∀ (m x : Nat) (acc : List Int), d + m = 62 → x < 2 ^ 62 → (∀ i, i < m → x.testBit i = false) → acc.length ≤ m → Ev (fun k => impl_list.l0 k (x : Int) acc) (acc ++ onesFrom x d m) := by
  have done : ∀ d m (acc : List Int), Ev (fun k => impl_list.l0 k ((0 : Nat) : Int) acc) (acc ++ onesFrom 0 d m) := by
    intro d m acc
    rw [onesFrom_zero, List.append_nil]
    refine ev_k ?_
    simp only [impl_list.l0]
    exact ev_pos rfl (Ev.now _)
  induction d with
  | zero =>
    intro m x acc hd hx hl ha
    have : x = 0 := by
      refine Nat.eq_of_testBit_eq fun i => ?_
      rw [Nat.zero_testBit]
      by_cases hi : i < m
      · exact hl i hi
      · exact Nat.testBit_lt_two_pow (Nat.lt_of_lt_of_le hx (Nat.pow_le_pow_right (by decide) (by omega)))
    subst this
    exact done 0 m acc
  | succ d ih =>
    intro m x acc hd hx hl ha
    by_cases hb : x.testBit m = true
    · obtain ⟨hc, q, e⟩ := ctz_at (Nat.lt_trans hx (by decide)) hb hl
      have x0 : x ≠ 0 := by rintro rfl; simp at hb
      have hq : 2 ^ m * (2 * q) < 2 ^ 62 := Nat.lt_of_le_of_lt (Nat.mul_le_mul_left _ (by omega)) (e ▸ hx)
      have := ih (m + 1) (2 ^ m * (2 * q)) (acc ++ [(m : Int)]) (by omega) hq (fun i hi => pred_low hi) (by simp; omega)
      have e2 : acc ++ onesFrom x (d + 1) m = acc ++ [(m : Int)] ++ onesFrom (2 ^ m * (2 * q)) d (m + 1) := by
        simp only [onesFrom, hb, if_true]
        rw [onesFrom_congr x (2 ^ m * (2 * q)) d (m + 1) fun i hi => by rw [pred_bit (by omega), ← e]]
        simp
      rw [e2]
      refine ev_k ?_
      simp only [impl_list.l0]
      refine ev_neg (by omega) ?_
      rw [wu64 (a := (x : Int)) (by omega) (by omega), w64 (a := (x : Int) - 1) (by omega) (by omega), show (x : Int) - 1 = ((x - 1 : Nat) : Int) by omega, and_nat x (x - 1) (by omega) (by omega)]
      have ex : x &&& (x - 1) = 2 ^ m * (2 * q) := by rw [e]; exact and_pred
      rw [ex]
      refine ev_bind0 (a := (m : Int)) ?_ (ev_pos (by omega) this)
      unfold bits_TrailingZeros64.f
      rw [if_pos (by omega), if_pos (by omega), Int.toNat_natCast, hc]
    · have := ih (m + 1) x acc (by omega) hx (fun i hi => if h : i = m then by rw [h]; simpa using hb else hl i (by omega)) (by omega)
      have e : onesFrom x (d + 1) m = onesFrom x d (m + 1) := by simp [onesFrom, hb]
      rwa [e]
def ones (x : Int) : List Int := onesFrom x.toNat 62 0
theorem i_list {x : Int} (h0 : 0 ≤ x) (h1 : x < 4611686018427387904) : Ev (fun k => impl_list.f k x) (ones x) := by
  obtain ⟨y, rfl⟩ := Int.eq_ofNat_of_zero_le h0
  unfold impl_list.f ones
  rw [Int.toNat_natCast]
  have := i_list_l0 62 0 y [] (by omega) (by omega) (fun i hi => by omega) (by simp)
  simpa using this
theorem onesFrom_mem (x : Nat) (d : Nat) : ∀ m (v : Int), v ∈ onesFrom x d m ↔ ∃ i : Nat, v = (i : Int) ∧ m ≤ i ∧ i < m + d ∧ x.testBit i = true := by
  induction d with
  | zero => intro m v; simp [onesFrom]; intro i _ _; omega
  | succ d ih =>
    intro m v
    simp only [onesFrom]
    have s : (∃ i : Nat, v = (i : Int) ∧ m ≤ i ∧ i < m + (d + 1) ∧ x.testBit i = true) ↔ (v = (m : Int) ∧ x.testBit m = true) ∨ ∃ i : Nat, v = (i : Int) ∧ m + 1 ≤ i ∧ i < m + 1 + d ∧ x.testBit i = true := by
      constructor
      · rintro ⟨i, rfl, h1, h2, h3⟩
        by_cases e : i = m
        · subst e
          exact .inl ⟨rfl, h3⟩
        · exact .inr ⟨i, rfl, by omega, by omega, h3⟩
      · rintro (⟨rfl, h⟩ | ⟨i, rfl, h1, h2, h3⟩)
        · exact ⟨m, rfl, by omega, by omega, h⟩
        · exact ⟨i, rfl, by omega, by omega, h3⟩
    rw [s, ← ih]
    by_cases h : x.testBit m = true
    · rw [if_pos h]
      simp [h]
    · rw [if_neg h]
      simp [h]
theorem ones_mem {n x : Int} (n0 : 0 ≤ n) (n2 : n ≤ 62) (x0 : 0 ≤ x) (x1 : x < 2 ^ n.toNat) (v : Int) : v ∈ ones x ↔ 0 ≤ v ∧ v < n ∧ tb x v = true := by
  unfold ones
  rw [onesFrom_mem]
  constructor
  · rintro ⟨i, rfl, h1, h2, h3⟩
    have ht : tb x i = true := by rw [tb_toNat x0 (by omega)]; simpa using h3
    refine ⟨by omega, ?_, ht⟩
    by_cases h : (i : Int) < n
    · exact h
    · rw [tb_high x0 x1 n0 (by omega)] at ht
      cases ht
  · rintro ⟨h1, h2, h3⟩
    refine ⟨v.toNat, by omega, by omega, by omega, ?_⟩
    rwa [tb_toNat x0 h1] at h3
theorem onesFrom_length (x : Nat) (d : Nat) : ∀ m, (onesFrom x d m).length ≤ d := by
  induction d with
  | zero => intro m; simp [onesFrom]
  | succ d ih =>
    intro m
    simp only [onesFrom]
    have := ih (m + 1)
    split <;> simp <;> omega
theorem ones_length (x : Int) : (ones x).length ≤ 62 := onesFrom_length _ 62 0
theorem onesFrom_high (x : Nat) (d e : Nat) : ∀ m, x < 2 ^ (m + d) → onesFrom x (d + e) m = onesFrom x d m := by
  induction d with
  | zero =>
    intro m h
    rw [Nat.zero_add]
    induction e generalizing m with
    | zero => rfl
    | succ e ihe =>
      have hb : x.testBit m = false := Nat.testBit_lt_two_pow h
      simp only [onesFrom, hb]
      rw [ihe (m + 1) (Nat.lt_of_lt_of_le h (Nat.pow_le_pow_right (by decide) (by omega)))]
      simp [onesFrom]
  | succ d ih =>
    intro m h
    rw [show d + 1 + e = (d + e) + 1 by omega]
    simp only [onesFrom]
    rw [ih (m + 1) (by rwa [show m + 1 + d = m + (d + 1) by omega])]
theorem ones_to {n x : Int} (n0 : 0 ≤ n) (n2 : n ≤ 62) (x0 : 0 ≤ x) (x1 : x < 2 ^ n.toNat) : ones x = onesFrom x.toNat n.toNat 0 := by
  unfold ones
  have e : ((2 : Int) ^ n.toNat) = ((2 ^ n.toNat : Nat) : Int) := by simp
  rw [e] at x1
  have := onesFrom_high x.toNat n.toNat (62 - n.toNat) 0 (by rw [Nat.zero_add]; omega)
  rwa [show n.toNat + (62 - n.toNat) = 62 by omega] at this
theorem onesFrom_add (x a b : Nat) : ∀ m, onesFrom x (a + b) m = onesFrom x a m ++ onesFrom x b (m + a) := by
  induction a with
  | zero => intro m; simp [onesFrom]
  | succ a ih =>
    intro m
    rw [show a + 1 + b = (a + b) + 1 by omega]
    simp only [onesFrom]
    rw [ih (m + 1), show m + 1 + a = m + (a + 1) by omega]
    split <;> simp
end Go.Proofs.YtkmpkcofddpdgaaDoor.Q
namespace Go.Proofs.YtkmpkcofddpdgaaDoor.Q
open Go Go.RowKit Go.Proofs.YtkmpkcofddpdgaaDoor.P Go.Proofs.YtkmpkcofddpdgaaDoorW.PrintWords Go.Proofs.YtkmpkcofddpdgaaDoorW.PrintMore
def Is (n x : Int) (P : Int → Prop) : Prop := Rw n x ∧ ∀ u, 0 ≤ u → u < n → (tb x u = true ↔ P u)
theorem Is.imp {n x : Int} {P Q : Int → Prop} (h : Is n x P) (e : ∀ u, 0 ≤ u → u < n → (P u ↔ Q u)) : Is n x Q := ⟨h.1, fun u u0 u1 => (h.2 u u0 u1).trans (e u u0 u1)⟩
theorem level_next {n : Int} {l : List Int} {s : Int} {r : List Int} (hr : Dist n l s r) {d S X : Int} (d0 : 0 ≤ d) (hX : Is n X fun u => ∃ w, (0 ≤ w ∧ w < n) ∧ rd r w = d ∧ tb (rd l w) u = true) (u : Int) (u0 : 0 ≤ u) (u1 : u < n) (hS : tb S u = true ↔ 0 ≤ rd r u ∧ rd r u ≤ d) : ((tb S u = true ∨ tb X u = true) ↔ 0 ≤ rd r u ∧ rd r u ≤ d + 1) ∧ ((tb X u = true ∧ ¬ tb S u = true) ↔ rd r u = d + 1) := by
  have a := hr.next d u d0 u0 u1
  rw [hS, hX.2 u u0 u1]
  constructor
  · constructor
    · rintro (z | z)
      · omega
      · by_cases q : 0 ≤ rd r u ∧ rd r u ≤ d
        · omega
        · have := a.2 ⟨z, q⟩
          omega
    · intro z
      by_cases q : 0 ≤ rd r u ∧ rd r u ≤ d
      · exact .inl q
      · exact .inr (a.1 (by omega)).1
  · exact a.symm
section
variable {n : Int} {l : List Int} (h : rows n l) {s : Int} (s0 : 0 ≤ s) (s1 : s < n) {r : List Int} (hr : Dist n l s r)
include h hr
theorem i_distances_l0 (M : Nat) (hM : ∀ u, 0 ≤ u → u < n → rd r u < (M : Int)) (e : Nat) : ∀ (d : Nat) (ds : List Int) (S L : Int), (M : Int) - d = e → (d : Int) ≤ 1000000 → (M : Int) ≤ 1000000 → (ds.length : Int) = n → (∀ u, 0 ≤ u → u < n → rd ds u = if 0 ≤ rd r u ∧ rd r u < d then rd r u else -1) → Is n S (fun u => 0 ≤ rd r u ∧ rd r u ≤ d) → Is n L (fun u => rd r u = d) → Ev (fun k => impl_Graph_distances.l0 k ds S L d n l) r := by
  have n2 := h.2.1
  have hl := h.2.2.1
  have n0 : 0 ≤ n := by have := h.1; omega
  have stop : ∀ (d : Nat) (ds : List Int) (S : Int), (ds.length : Int) = n → (∀ u, 0 ≤ u → u < n → rd ds u = if 0 ≤ rd r u ∧ rd r u < d then rd r u else -1) → (∀ u, 0 ≤ u → u < n → rd r u ≠ d) → Ev (fun k => impl_Graph_distances.l0 k ds S 0 d n l) r := by
    intro d ds S hlen hds hno
    have : ds = r := by
      refine rd_ext (by have := hr.len; omega) fun u u0 u1 => ?_
      have u1 : u < n := by omega
      rw [hds u u0 u1]
      have a := hr.stops d (by omega) hno u u0 u1
      have b := hr.low u u0 u1
      split <;> omega
    subst this
    refine ev_k ?_
    simp only [impl_Graph_distances.l0]
    exact ev_pos trivial (Ev.now _)
  induction e with
  | zero =>
    intro d ds S L he hd hM2 hlen hds hS hL
    have hno : ∀ u, 0 ≤ u → u < n → rd r u ≠ d := fun u u0 u1 => by have := hM u u0 u1; omega
    have : L = 0 := (hL.1.eq_zero n0).2 fun w w0 w1 z => hno w w0 w1 ((hL.2 w w0 w1).1 z)
    subst this
    exact stop d ds S hlen hds hno
  | succ e ih =>
    intro d ds S L he hd hM2 hlen hds hS hL
    by_cases hz : L = 0
    · subst hz
      exact stop d ds S hlen hds fun u u0 u1 z => (hL.1.eq_zero n0).1 rfl u u0 u1 ((hL.2 u u0 u1).2 z)
    · have hp := two_pow_le (n := n) n0 n2
      have inner : ∀ (ws pre ds : List Int) (X : Int), pre ++ ws = ones L → (ds.length : Int) = n → (∀ u, 0 ≤ u → u < n → rd ds u = if (0 ≤ rd r u ∧ rd r u < d) ∨ u ∈ pre then rd r u else -1) → Is n X (fun u => ∃ w, w ∈ pre ∧ tb (rd l w) u = true) → Ev (fun k => impl_Graph_distances.l1 k ds S d X (ones L) (ones L).length pre.length n l) r := by
        intro ws
        have ol := ones_length L
        have om := fun v => ones_mem n0 n2 hL.1.1 hL.1.2 v
        induction ws with
        | nil =>
          intro pre ds X hpre hlen hds hX
          rw [List.append_nil] at hpre
          subst hpre
          have hX2 : Is n X fun u => ∃ w, (0 ≤ w ∧ w < n) ∧ rd r w = d ∧ tb (rd l w) u = true := hX.imp fun u u0 u1 => by
            constructor
            · rintro ⟨w, hw, ht⟩
              obtain ⟨a, b, c⟩ := (om w).1 hw
              exact ⟨w, ⟨a, b⟩, (hL.2 w a b).1 c, ht⟩
            · rintro ⟨w, ⟨a, b⟩, c, ht⟩
              exact ⟨w, (om w).2 ⟨a, b, (hL.2 w a b).2 c⟩, ht⟩
          have o := or_rw n2 hS.1 hX.1
          have q := andNot_rw n2 hX.1 hS.1
          refine ev_k ?_
          simp only [impl_Graph_distances.l1]
          refine ev_neg (by omega) ?_
          rw [w64 (a := (d : Int) + 1) (by omega) (by omega)]
          refine ih (d + 1) ds _ _ (by omega) (by omega) hM2 hlen (fun u u0 u1 => ?_) ⟨o.1, fun u u0 u1 => ?_⟩ ⟨q.1, fun u u0 u1 => ?_⟩
          · rw [hds u u0 u1]
            have z : u ∈ ones L ↔ rd r u = d := (om u).trans ⟨fun z => (hL.2 u u0 u1).1 z.2.2, fun z => ⟨u0, u1, (hL.2 u u0 u1).2 z⟩⟩
            by_cases q : u ∈ ones L
            · have := z.1 q
              rw [if_pos (.inr q), if_pos (by omega)]
            · have q2 : rd r u ≠ d := fun e => q (z.2 e)
              by_cases p : 0 ≤ rd r u ∧ rd r u < d
              · rw [if_pos (.inl p), if_pos (by omega)]
              · rw [if_neg (by rintro (a | a); exact p a; exact q a), if_neg (by omega)]
          · rw [o.2 u u0]
            exact ((level_next hr (by omega) hX2 u u0 u1 (hS.2 u u0 u1)).1).trans (by omega)
          · rw [q.2 u u0]
            exact ((level_next hr (by omega) hX2 u u0 u1 (hS.2 u u0 u1)).2).trans (by omega)
        | cons w ws ihw =>
          intro pre ds X hpre hlen hds hX
          have hlt : pre.length < (ones L).length := by rw [← hpre]; simp
          have hw : rd (ones L) pre.length = w := by
            rw [← hpre]
            simp [rd, List.getD_eq_getElem?_getD]
          obtain ⟨w0, w1, wt⟩ := (om w).1 (by rw [← hpre]; simp)
          have hwd := (hL.2 w w0 w1).1 wt
          have o := or_rw n2 hX.1 (h.2.2.2 w w0 w1)
          refine ev_k ?_
          simp only [impl_Graph_distances.l1, hw]
          refine ev_pos (by omega) (ev_pos (by omega) (ev_pos (by omega) (ev_pos w0 (ev_pos (by omega) (ev_pos (by omega) ?_)))))
          rw [w64 (a := (pre.length : Int) + 1) (by omega) (by omega)]
          have := ihw (pre ++ [w]) (ds.set w.toNat d) (bits .or .i64 X (rd l w)) (by rw [← hpre]; simp) (by simpa using hlen) (fun u u0 u1 => ?_) ⟨o.1, fun u u0 u1 => ?_⟩
          · simpa using this
          · rw [rd_set _ w0 (by omega) u0]
            by_cases e : u = w
            · subst e
              rw [if_pos rfl, if_pos (.inr (by simp)), hwd]
            · rw [if_neg e, hds u u0 u1]
              simp [e]
          · rw [o.2 u u0, hX.2 u u0 u1]
            constructor
            · rintro (⟨x, hx, ht⟩ | ht)
              · exact ⟨x, by simp [hx], ht⟩
              · exact ⟨w, by simp, ht⟩
            · rintro ⟨x, hx, ht⟩
              rcases List.mem_append.1 hx with hx | hx
              · exact .inl ⟨x, hx, ht⟩
              · obtain rfl : x = w := by simpa using hx
                exact .inr ht
      refine ev_k ?_
      simp only [impl_Graph_distances.l0]
      refine ev_neg hz (Ev.bind (i_list hL.1.1 (by have := hL.1.2; omega)) ?_)
      have := inner (ones L) [] ds 0 (by simp) hlen (fun u u0 u1 => by rw [hds u u0 u1]; simp) ⟨(zero_rw n).1, fun u u0 u1 => ⟨fun z => absurd z ((zero_rw n).2 u), fun ⟨w, hw, _⟩ => by cases hw⟩⟩
      simpa using this
include s0 s1
theorem i_distances : Ev (fun k => impl_Graph_distances.f k n l s) r := by
  have n2 := h.2.1
  have n0 : 0 ≤ n := by have := h.1; omega
  have hb : ∀ u, 0 ≤ u → u < n → rd r u < 1000000 := fun u u0 u1 => by have := hr.small u u0 u1; omega
  obtain ⟨o1, o2⟩ := one_rw n2 s0 s1
  unfold impl_Graph_distances.f
  refine ev_bind0 (a := List.replicate n.toNat (-1)) ?_ (ev_pos s0 ?_)
  · unfold slices_Repeat_int64_int64.f
    rw [if_pos (show ([-1] : List Int).length = 1 from rfl), if_pos n0, if_pos (by omega)]
    rfl
  · refine i_distances_l0 h hr 1000000 hb 1000000 0 _ _ _ (by omega) (by omega) (by omega) (by simp; omega) (fun u u0 u1 => ?_) ⟨o1, fun u u0 u1 => ?_⟩ ⟨o1, fun u u0 u1 => ?_⟩
    · have : u.toNat < n.toNat := by omega
      rw [if_neg (by omega)]
      simp [rd, List.getD_eq_getElem?_getD, this]
    · rw [o2 u u0, ← hr.src u u0 u1]
      omega
    · rw [o2 u u0, ← hr.src u u0 u1]
      omega
end
end Go.Proofs.YtkmpkcofddpdgaaDoor.Q
namespace Go.Proofs.YtkmpkcofddpdgaaDoor.Q
open Go Go.RowKit Go.Proofs.YtkmpkcofddpdgaaDoorW.PrintWords Go.Proofs.YtkmpkcofddpdgaaDoorW.PrintMore
theorem rd_app_left {q : List Int} {u : Int} {i : Int} (i0 : 0 ≤ i) (i1 : i < q.length) : rd (q ++ [u]) i = rd q i := by
  simp only [rd, List.getD_eq_getElem?_getD]
  rw [List.getElem?_append_left (by omega)]
theorem rd_app_last (q : List Int) (u : Int) : rd (q ++ [u]) q.length = u := by
  simp [rd, List.getD_eq_getElem?_getD]
theorem rd_mem {q : List Int} {i : Int} (i0 : 0 ≤ i) (i1 : i < q.length) : rd q i ∈ q := by
  have hu : i.toNat < q.length := by omega
  have : rd q i = q[i.toNat] := by simp [rd, List.getD_eq_getElem?_getD, List.getElem?_eq_getElem hu]
  rw [this]
  exact List.getElem_mem _
theorem mem_rd {q : List Int} {u : Int} (h : u ∈ q) : ∃ i : Int, (0 ≤ i ∧ i < q.length) ∧ rd q i = u := by
  obtain ⟨i, hi, rfl⟩ := List.getElem_of_mem h
  exact ⟨i, by omega, by simp [rd, List.getD_eq_getElem?_getD, List.getElem?_eq_getElem hi]⟩
structure QI (n : Int) (l : List Int) (s : Int) (r ds q : List Int) (i : Int) : Prop where
  len : (ds.length : Int) = n
  at0 : 0 ≤ i ∧ i ≤ q.length
  val : ∀ u, 0 ≤ u → u < n → rd ds u = -1 ∨ (rd ds u = rd r u ∧ 0 ≤ rd r u)
  mem : ∀ u, u ∈ q ↔ (0 ≤ u ∧ u < n) ∧ 0 ≤ rd ds u
  mono : ∀ a b : Int, 0 ≤ a → a ≤ b → b < q.length → rd r (rd q a) ≤ rd r (rd q b)
  top : i < q.length → ∀ b : Int, 0 ≤ b → b < q.length → rd r (rd q b) ≤ rd r (rd q i) + 1
  clos : ∀ a : Int, 0 ≤ a → a < i → ∀ u, 0 ≤ u → u < n → tb (rd l (rd q a)) u = true → 0 ≤ rd ds u
  met : i < q.length → ∀ u, 0 ≤ u → u < n → 0 ≤ rd r u → rd r u ≤ rd r (rd q i) → 0 ≤ rd ds u
  cnt : ds.count (-1) + q.length = n
  src : s ∈ q
section
variable {n : Int} {l : List Int} {s : Int} {r : List Int} (hr : Dist n l s r)
theorem QI.head {ds q : List Int} {i : Int} (h : QI n l s r ds q i) (hi : i < q.length) : (0 ≤ rd q i ∧ rd q i < n) ∧ rd ds (rd q i) = rd r (rd q i) ∧ 0 ≤ rd r (rd q i) := by
  obtain ⟨hw, h0⟩ := (h.mem (rd q i)).1 (rd_mem h.at0.1 hi)
  rcases h.val _ hw.1 hw.2 with e | e
  · omega
  · exact ⟨hw, e.1, e.2⟩
include hr
theorem QI.add {ds q : List Int} {i : Int} (h : QI n l s r ds q i) (hi : i < q.length) {u : Int} (u0 : 0 ≤ u) (u1 : u < n) (ht : tb (rd l (rd q i)) u = true) (hu : rd ds u < 0) : rd r u = rd r (rd q i) + 1 ∧ QI n l s r (ds.set u.toNat (rd r u)) (q ++ [u]) i := by
  obtain ⟨hw, hd, h0⟩ := h.head hi
  have i0 := h.at0.1
  have hnext := hr.next (rd r (rd q i)) u h0 u0 u1
  have e : rd r u = rd r (rd q i) + 1 := by
    refine hnext.2 ⟨⟨rd q i, hw, rfl, ht⟩, fun z => ?_⟩
    have := h.met hi u u0 u1 z.1 z.2
    omega
  have hlen := h.len
  have hs : ∀ v, 0 ≤ v → rd (ds.set u.toNat (rd r u)) v = if v = u then rd r u else rd ds v := fun v v0 => rd_set _ u0 (by omega) v0
  have nm : ∀ v, 0 ≤ v → 0 ≤ rd ds v → 0 ≤ rd (ds.set u.toNat (rd r u)) v := fun v v0 z => by
    rw [hs v v0]
    split <;> omega
  have len2 : ((q ++ [u]).length : Int) = q.length + 1 := by simp
  refine ⟨e, ⟨by simpa using hlen, by omega, fun v v0 v1 => ?_, fun v => ?_, fun a b a0 ab b1 => ?_, fun _ b b0 b1 => ?_, fun a a0 a1 v v0 v1 tv => ?_, fun _ v v0 v1 z y => ?_, ?_, by simp [h.src]⟩⟩
  · rw [hs v v0]
    by_cases z : v = u
    · rw [if_pos z, z]
      exact .inr ⟨rfl, by omega⟩
    · rw [if_neg z]
      exact h.val v v0 v1
  · rw [List.mem_append, List.mem_singleton, h.mem v]
    constructor
    · rintro (⟨z, y⟩ | rfl)
      · exact ⟨z, nm v z.1 y⟩
      · exact ⟨⟨u0, u1⟩, by rw [hs v u0, if_pos rfl]; omega⟩
    · rintro ⟨z, y⟩
      by_cases q : v = u
      · exact .inr q
      · rw [hs v z.1, if_neg q] at y
        exact .inl ⟨z, y⟩
  · by_cases hb : b = q.length
    · subst hb
      rw [rd_app_last]
      by_cases ha : a = q.length
      · subst ha
        rw [rd_app_last]
        omega
      · rw [rd_app_left a0 (by omega), e]
        exact h.top hi a a0 (by omega)
    · rw [rd_app_left a0 (by omega), rd_app_left (by omega) (by omega)]
      exact h.mono a b a0 ab (by omega)
  · rw [rd_app_left (q := q) (i := i) i0 hi]
    by_cases hb : b = q.length
    · subst hb
      rw [rd_app_last]
      omega
    · rw [rd_app_left b0 (by omega)]
      exact h.top hi b b0 (by omega)
  · rw [rd_app_left a0 (by omega)] at tv
    exact nm v v0 (h.clos a a0 a1 v v0 v1 tv)
  · rw [rd_app_left (q := q) (i := i) i0 hi] at y
    exact nm v v0 (h.met hi v v0 v1 z y)
  · have hul : u.toNat < ds.length := by omega
    have e1 : ds[u.toNat] = -1 := by
      have := h.val u u0 u1
      have e2 : rd ds u = ds[u.toNat] := by simp [rd, List.getD_eq_getElem?_getD, List.getElem?_eq_getElem hul]
      omega
    have c := List.count_set (a := rd r u) (b := (-1 : Int)) hul
    have cp : 0 < ds.count (-1) := List.count_pos_iff.2 (by rw [← e1]; exact List.getElem_mem _)
    rw [e1, if_pos (by simp), if_neg (by simp; omega)] at c
    have := h.cnt
    rw [c, List.length_append]
    simp
    omega
theorem QI.step {ds q : List Int} {i : Int} (h : QI n l s r ds q i) (hi : i < q.length) (hp : ∀ u, 0 ≤ u → u < n → tb (rd l (rd q i)) u = true → 0 ≤ rd ds u) : QI n l s r ds q (i + 1) := by
  obtain ⟨hw, hd, h0⟩ := h.head hi
  have i0 := h.at0.1
  have hcl : ∀ a : Int, 0 ≤ a → a < i + 1 → ∀ u, 0 ≤ u → u < n → tb (rd l (rd q a)) u = true → 0 ≤ rd ds u := fun a a0 a1 u u0 u1 tu => by
    by_cases e : a = i
    · subst e
      exact hp u u0 u1 tu
    · exact h.clos a a0 (by omega) u u0 u1 tu
  refine ⟨h.len, by omega, h.val, h.mem, h.mono, fun hi2 b b0 b1 => ?_, hcl, fun hi2 u u0 u1 z y => ?_, h.cnt, h.src⟩
  · have a := h.mono i (i + 1) i0 (by omega) hi2
    have c := h.top hi b b0 b1
    omega
  · have a := h.mono i (i + 1) i0 (by omega) hi2
    have c := h.top hi (i + 1) (by omega) hi2
    by_cases e : rd r u ≤ rd r (rd q i)
    · exact h.met hi u u0 u1 z e
    · obtain ⟨⟨w, hw, hwd, ht⟩, _⟩ := (hr.next (rd r (rd q i)) u h0 u0 u1).1 (by omega)
      have hwq : w ∈ q := (h.mem w).2 ⟨hw, h.met hi w hw.1 hw.2 (by omega) (by omega)⟩
      obtain ⟨a, ha, hae⟩ := mem_rd hwq
      have : a < i + 1 := by
        by_cases z2 : a < i + 1
        · exact z2
        · have := h.mono (i + 1) a (by omega) (by omega) ha.2
          rw [hae] at this
          omega
      rw [← hae] at ht
      exact hcl a ha.1 this u u0 u1 ht
theorem QI.done {ds q : List Int} {i : Int} (h : QI n l s r ds q i) (hi : ¬ i < q.length) : ds = r := by
  have hall : ∀ (d : Nat) (u : Int), 0 ≤ u → u < n → rd r u = (d : Int) → 0 ≤ rd ds u := by
    intro d
    induction d with
    | zero =>
      intro u u0 u1 hu
      have := (hr.src u u0 u1).1 hu
      subst this
      exact ((h.mem _).1 h.src).2
    | succ d ih =>
      intro u u0 u1 hu
      obtain ⟨⟨w, hw, hwd, ht⟩, _⟩ := (hr.next d u (by omega) u0 u1).1 (by omega)
      obtain ⟨a, ha, hae⟩ := mem_rd ((h.mem w).2 ⟨hw, ih w hw.1 hw.2 hwd⟩)
      rw [← hae] at ht
      exact h.clos a ha.1 (by omega) u u0 u1 ht
  refine rd_ext (by have := h.len; have := hr.len; omega) fun u u0 u1 => ?_
  have u1 : u < n := by have := h.len; omega
  have lw := hr.low u u0 u1
  rcases h.val u u0 u1 with e | e
  · by_cases z : rd r u < 0
    · omega
    · have := hall (rd r u).toNat u u0 u1 (by omega)
      omega
  · exact e.1
theorem QI.start (s0 : 0 ≤ s) (s1 : s < n) : QI n l s r ((List.replicate n.toNat (-1)).set s.toNat 0) [s] 0 := by
  have hs : ∀ v, 0 ≤ v → v < n → rd ((List.replicate n.toNat (-1)).set s.toNat 0) v = if v = s then 0 else -1 := fun v v0 v1 => by
    rw [rd_set _ s0 (by simp; omega) v0]
    have : v.toNat < n.toNat := by omega
    split
    · rfl
    · simp [rd, List.getD_eq_getElem?_getD, this]
  have h0 : rd [s] 0 = s := rfl
  have e0 := (hr.src s s0 s1).2 rfl
  have one : ∀ b : Int, 0 ≤ b → b < ([s].length : Nat) → rd [s] b = s := fun b b0 b1 => by
    obtain rfl : b = 0 := by simp at b1; omega
    rfl
  refine ⟨by simp; omega, by simp, fun u u0 u1 => ?_, fun u => ?_, fun a b a0 ab b1 => ?_, fun _ b b0 b1 => ?_, fun a a0 a1 => by omega, fun _ u u0 u1 z y => ?_, ?_, by simp⟩
  · rw [hs u u0 u1]
    by_cases e : u = s
    · rw [if_pos e, e, e0]
      exact .inr ⟨rfl, by omega⟩
    · exact .inl (if_neg e)
  · rw [List.mem_singleton]
    constructor
    · rintro rfl
      exact ⟨⟨s0, s1⟩, by rw [hs u s0 s1, if_pos rfl]; omega⟩
    · rintro ⟨z, y⟩
      rw [hs u z.1 z.2] at y
      by_cases e : u = s
      · exact e
      · rw [if_neg e] at y
        omega
  · rw [one a a0 (by omega), one b (by omega) b1]
    omega
  · rw [one b b0 b1, h0]
    omega
  · rw [h0, e0] at y
    rw [(hr.src u u0 u1).1 (by omega), hs s s0 s1, if_pos rfl]
    omega
  · have hul : s.toNat < (List.replicate n.toNat (-1 : Int)).length := by simp; omega
    have c := List.count_set (a := (0 : Int)) (b := (-1 : Int)) hul
    rw [c]
    simp
    omega
end
end Go.Proofs.YtkmpkcofddpdgaaDoor.Q
namespace Go.Proofs.YtkmpkcofddpdgaaDoor.Q
open Go Go.RowKit Go.Proofs.YtkmpkcofddpdgaaDoor.P Go.Proofs.YtkmpkcofddpdgaaDoorW.PrintWords Go.Proofs.YtkmpkcofddpdgaaDoorW.PrintMore
section
variable {n : Int} {l : List Int} (h : rows n l) (a b : Int) {l' : List Int} (hcut : ∀ w u, 0 ≤ w → w < n → 0 ≤ u → u < n → (tb (rd l' w) u = true ↔ tb (rd l w) u = true ∧ ¬ (w = a ∧ u = b) ∧ ¬ (w = b ∧ u = a))) {s : Int} (s0 : 0 ≤ s) (s1 : s < n) {r : List Int} (hr : Dist n l' s r)
include h hcut hr
theorem s_from_l1 (e : Nat) : ∀ (i : Int) (ds q : List Int), n - i = e → QI n l' s r ds q i → Ev (fun k => spec_l02From.l1 k a b ds q i n l) r := by
  have n1 := h.1
  have n2 := h.2.1
  have hl := h.2.2.1
  have stop : ∀ (i : Int) (ds q : List Int), QI n l' s r ds q i → ¬ i < q.length → Ev (fun k => spec_l02From.l1 k a b ds q i n l) r := by
    intro i ds q hq hi
    obtain rfl := hq.done hr hi
    refine ev_k ?_
    simp only [spec_l02From.l1]
    exact ev_neg hi (Ev.now _)
  induction e with
  | zero =>
    intro i ds q he hq
    exact stop i ds q hq (by have := hq.cnt; omega)
  | succ e ih =>
    intro i ds q he hq
    by_cases hi : i < q.length
    · have i0 := hq.at0.1
      have inner : ∀ (c : Nat) (u : Int) (ds q : List Int) (w : Int), QI n l' s r ds q i → i < q.length → rd q i = w → 0 ≤ u → u ≤ n → n - u = c → (∀ v, 0 ≤ v → v < u → tb (rd l' w) v = true → 0 ≤ rd ds v) → Ev (fun k => spec_l02From.l2 k a b ds q i w u n l) r := by
        intro c
        induction c with
        | zero =>
          intro u ds q w hq hi hw u0 u1 hc hp
          refine ev_k ?_
          simp only [spec_l02From.l2]
          rw [w64 (a := i + 1) (by have := hq.cnt; omega) (by have := hq.cnt; omega)]
          exact ev_neg (by omega) (ih (i + 1) ds q (by omega) (hq.step hr hi fun v v0 v1 tv => hp v v0 (by omega) (by rw [← hw]; exact tv)))
        | succ c ihc =>
          intro u ds q w hq hi hw u0 u1 hc hp
          obtain ⟨hwr, hwd, hw0⟩ := hq.head hi
          rw [hw] at hwr hwd hw0
          have hlen := hq.len
          have hcnt := hq.cnt
          have hc' := hcut w u hwr.1 hwr.2 u0 (by omega)
          have bq : bits .and .i64 (shr .i64 (rd l w) u) 1 = 0 ↔ ¬ tb (rd l w) u = true := by
            rw [bit_at u0 (by omega)]
            cases tb (rd l w) u <;> simp
          have skip : (tb (rd l' w) u = true → 0 ≤ rd ds u) → Ev (fun k => spec_l02From.l2 k a b ds q i w (u + 1) n l) r := fun z => ihc (u + 1) ds q w hq hi hw (by omega) (by omega) (by omega) fun v v0 v1 tv => by
            by_cases y : v = u
            · rw [y] at tv ⊢
              exact z tv
            · exact hp v v0 (by omega) tv
          refine ev_k ?_
          simp only [spec_l02From.l2]
          rw [wu64 u0 (by omega), w64 (a := u + 1) (by omega) (by omega)]
          refine ev_pos (by omega) (ev_pos hwr.1 (ev_pos (by omega) (ev_pos u0 ?_)))
          by_cases ht : tb (rd l w) u = true
          · refine ev_neg (fun z => bq.1 z ht) (ev_pos u0 (ev_pos (by omega) ?_))
            by_cases hu : rd ds u ≥ 0
            · exact ev_pos hu (skip fun _ => hu)
            · refine ev_neg hu ?_
              by_cases hx : (w = a ∧ u = b) ∨ (w = b ∧ u = a)
              · have sk := skip fun z => by
                  have := hc'.1 z
                  rcases hx with y | y
                  · exact absurd y this.2.1
                  · exact absurd y this.2.2
                refine ev_ite (fun q1 => ev_ite (fun q2 => sk) fun q2 => ev_ite (fun q3 => ev_ite (fun q4 => sk) fun q4 => ?_) fun q3 => ?_) fun q1 => ev_ite (fun q3 => ev_ite (fun q4 => sk) fun q4 => ?_) fun q3 => ?_
                all_goals exact absurd hx (by omega)
              · have ht' := hc'.2 ⟨ht, fun z => hx (.inl z), fun z => hx (.inr z)⟩
                have add : Ev (fun k => if w < (ds.length : Int) then (if q.length < 17592186044416 then (spec_l02From.l2 k a b (ds.set (u : Int).toNat (wrap64 ((rd ds w) + 1))) (q ++ [u]) i w (u + 1) n l) else (none)) else (none)) r := by
                  refine ev_pos (by omega) (ev_pos (by omega) ?_)
                  obtain ⟨e2, hq2⟩ := hq.add hr hi u0 (by omega) (by rw [hw]; exact ht') (by omega)
                  rw [hw] at e2
                  have hsm := hr.small w hwr.1 hwr.2
                  rw [hwd, w64 (a := rd r w + 1) (by omega) (by omega), ← e2]
                  refine ihc (u + 1) _ _ w hq2 (by simp; omega) (by rw [rd_app_left i0 hi]; exact hw) (by omega) (by omega) (by omega) fun v v0 v1 tv => ?_
                  rw [rd_set _ u0 (by omega) v0]
                  by_cases z : v = u
                  · rw [if_pos z]
                    omega
                  · rw [if_neg z]
                    exact hp v v0 (by omega) tv
                refine ev_ite (fun q1 => ev_ite (fun q2 => absurd (.inl ⟨q1, q2⟩) hx) fun q2 => ev_ite (fun q3 => ev_ite (fun q4 => absurd (.inr ⟨q3, q4⟩) hx) fun q4 => add) fun q3 => add) fun q1 => ev_ite (fun q3 => ev_ite (fun q4 => absurd (.inr ⟨q3, q4⟩) hx) fun q4 => add) fun q3 => add
          · exact ev_pos (bq.2 ht) (skip fun z => absurd (hc'.1 z).1 ht)
      refine ev_k ?_
      simp only [spec_l02From.l1]
      exact ev_pos hi (ev_pos i0 (inner n.toNat 0 ds q _ hq hi rfl (by omega) (by omega) (by omega) fun v v0 v1 => by omega))
    · exact stop i ds q hq hi
include s0 s1
theorem s_from_cut : Ev (fun k => spec_l02From.f k n l s a b) r := by
  have n1 := h.1
  have n2 := h.2.1
  have fill : ∀ (d : Nat) (i : Nat), (i : Int) ≤ n → n - i = d → Ev (fun k => spec_l02From.l0 k s a b (List.replicate i (-1)) i n l) r := by
    intro d
    induction d with
    | zero =>
      intro i h1 hd
      have := s_from_l1 h a b hcut hr n.toNat 0 _ _ (by omega) (QI.start hr s0 s1)
      refine ev_k ?_
      simp only [spec_l02From.l0]
      refine ev_neg (by omega) (ev_pos s0 (ev_pos (by simp; omega) ?_))
      rw [show i = n.toNat by omega]
      exact this
    | succ d ih =>
      intro i h1 hd
      have := ih (i + 1) (by omega) (by omega)
      refine ev_k ?_
      simp only [spec_l02From.l0]
      refine ev_pos (by omega) (ev_pos (by simp; omega) ?_)
      rw [w64 (a := (i : Int) + 1) (by omega) (by omega), ← List.replicate_succ']
      exact this
  unfold spec_l02From.f
  exact fill n.toNat 0 (by omega) (by omega)
end
end Go.Proofs.YtkmpkcofddpdgaaDoor.Q
namespace Go.Proofs.YtkmpkcofddpdgaaDoor.Q
open Go Go.RowKit Go.Proofs.YtkmpkcofddpdgaaDoor.P Go.Proofs.YtkmpkcofddpdgaaDoorW.PrintWords Go.Proofs.YtkmpkcofddpdgaaDoorW.PrintMore
theorem Mx.del {n : Int} {l : List Int} {P : Int → Int → Prop} (h : Mx n l P) (n2 : n ≤ 62) {i j : Int} (i0 : 0 ≤ i) (i1 : i < n) (j0 : 0 ≤ j) (j1 : j < n) : Mx n (l.set i.toNat (bits .andNot .i64 (rd l i) (shl .i64 1 j))) (fun v w => P v w ∧ ¬ (v = i ∧ w = j)) := by
  refine ⟨by simpa using h.1, fun v v0 v1 => ?_⟩
  rw [rd_set _ i0 (by have := h.1; omega) v0]
  by_cases hv : v = i
  · rw [if_pos hv]
    subst hv
    obtain ⟨b1, b2⟩ := one_rw n2 j0 j1
    obtain ⟨c1, c2⟩ := andNot_rw n2 (h.2 v v0 v1).1 b1
    exact ⟨c1, fun w w0 w1 => by rw [c2 w w0, b2 w w0, (h.2 v v0 v1).2 w w0 w1]; simp⟩
  · rw [if_neg hv]
    exact ⟨(h.2 v v0 v1).1, fun w w0 w1 => by rw [(h.2 v v0 v1).2 w w0 w1]; simp [hv]⟩
def cutL (l : List Int) (a b : Int) : List Int :=
  (l.set a.toNat (bits .andNot .i64 (rd l a) (shl .i64 1 b))).set b.toNat (bits .andNot .i64 (rd (l.set a.toNat (bits .andNot .i64 (rd l a) (shl .i64 1 b))) b) (shl .i64 1 a))
theorem cut_mx {n : Int} {l : List Int} (h : rows n l) {a b : Int} (a0 : 0 ≤ a) (a1 : a < n) (b0 : 0 ≤ b) (b1 : b < n) : Mx n (cutL l a b) (fun w u => tb (rd l w) u = true ∧ ¬ (w = a ∧ u = b) ∧ ¬ (w = b ∧ u = a)) :=
  (((mx_of h).del h.2.1 a0 a1 b0 b1).del h.2.1 b0 b1 a0 a1).imp fun _ _ _ _ _ _ => and_assoc
theorem cut_rows {n : Int} {l : List Int} (h : rows n l) {a b : Int} (a0 : 0 ≤ a) (a1 : a < n) (b0 : 0 ≤ b) (b1 : b < n) : rows n (cutL l a b) := (cut_mx h a0 a1 b0 b1).rows h.1 h.2.1
theorem cut_is {n : Int} {l : List Int} (h : rows n l) {a b : Int} (a0 : 0 ≤ a) (a1 : a < n) (b0 : 0 ≤ b) (b1 : b < n) (w u : Int) (w0 : 0 ≤ w) (w1 : w < n) (u0 : 0 ≤ u) (u1 : u < n) : tb (rd (cutL l a b) w) u = true ↔ tb (rd l w) u = true ∧ ¬ (w = a ∧ u = b) ∧ ¬ (w = b ∧ u = a) :=
  ((cut_mx h a0 a1 b0 b1).2 w w0 w1).2 u u0 u1
theorem cut_isG {n : Int} {l : List Int} (h : isG n l) {a b : Int} (a0 : 0 ≤ a) (a1 : a < n) (b0 : 0 ≤ b) (b1 : b < n) : isG n (cutL l a b) := by
  have hi := cut_is h.1 a0 a1 b0 b1
  refine ⟨cut_rows h.1 a0 a1 b0 b1, fun v v0 v1 => ?_, fun v w v0 v1 w0 w1 => Bool.eq_iff_iff.2 ?_⟩
  · cases hb : tb (rd (cutL l a b) v) v with
    | false => rfl
    | true =>
      have := ((hi v v v0 v1 v0 v1).1 hb).1
      rw [h.2.1 v v0 v1] at this
      cases this
  · rw [hi v w v0 v1 w0 w1, hi w v w0 w1 v0 v1, h.2.2 v w v0 v1 w0 w1]
    refine and_congr Iff.rfl ?_
    omega
theorem cut_comm {n : Int} {l : List Int} (h : rows n l) {a b : Int} (a0 : 0 ≤ a) (a1 : a < n) (b0 : 0 ≤ b) (b1 : b < n) : cutL l a b = cutL l b a :=
  Mx.eq (cut_mx h a0 a1 b0 b1) ((cut_mx h b0 b1 a0 a1).imp fun w u _ _ _ _ => and_congr Iff.rfl (by omega)) (by have := h.1; omega)
noncomputable def ar (n : Int) (l : List Int) (a b : Int) : Int := rd (dist n (cutL l a b) a) b + 1
section
variable {n : Int} {l : List Int} (h : rows n l) {a b : Int} (a0 : 0 ≤ a) (a1 : a < n) (b0 : 0 ≤ b) (b1 : b < n)
include h a0 a1 b0 b1
omit h in
theorem ar_range : 0 ≤ ar n l a b ∧ ar n l a b ≤ n := by
  have hd := dist_of n (cutL l a b) a (by omega)
  have := hd.low b b0 b1
  have := hd.small b b0 b1
  unfold ar
  omega
theorem i_take : impl_Graph_take.f n l a b = some (cutL l a b) := by
  have hl := h.2.2.1
  unfold impl_Graph_take.f cutL
  rw [if_pos a0, if_pos (by omega), if_pos b0]
  simp only [Option.bind_some]
  rw [if_pos (by omega)]
omit a0 a1 b0 b1 in
theorem i_own : impl_own.f n l = some (n, l) := by
  have hl := h.2.2.1
  have n2 := h.2.1
  unfold impl_own.f slices_Clone_int64_int64.f
  rw [if_pos (by omega)]
  rfl
theorem i_around : Ev (fun k => impl_Graph_around.f k n l a b) (ar n l a b) := by
  have hd := dist_of n (cutL l a b) a (by omega)
  have hlen := hd.len
  have hr := ar_range (l := l) a0 a1 b0 b1
  have n2 := h.2.1
  unfold impl_Graph_around.f
  refine ev_bind0 (i_own h) (ev_bind0 (i_take h a0 a1 b0 b1) (Ev.bind (i_distances (cut_rows h a0 a1 b0 b1) a0 a1 hd) (ev_pos b0 (ev_pos (by omega) (ev_some ?_)))))
  unfold ar at *
  exact w64 (by omega) (by omega)
theorem s_around : ∃ c, Ev (fun k => spec_l02Around.f k n l a b) (ar n l a b, c) := by
  have n1 := h.1
  have n2 := h.2.1
  have hl := h.2.2.1
  have hd := dist_of n (cutL l a b) a (by omega)
  have hlen := hd.len
  have hr := ar_range (l := l) a0 a1 b0 b1
  have hf := s_from_cut h a b (cut_is h a0 a1 b0 b1) a0 a1 hd
  unfold spec_l02Around.f
  unfold ar at *
  generalize dist n (cutL l a b) a = ds at *
  by_cases z : rd ds b < 0
  · refine ⟨0, Ev.bind hf (ev_pos b0 (ev_pos (by omega) (ev_pos z (ev_some ?_))))⟩
    rw [show rd ds b + 1 = 0 by omega]
  · have l0 : ∀ (e : Nat) (d : Int) (ws : List Int), 0 ≤ d → rd ds b - d ≤ e → (ws.length : Int) = n → ∃ c, Ev (fun k => spec_l02Around.l0 k a b ds ws d n l) (rd ds b + 1, c) := by
      intro e
      induction e with
      | zero =>
        intro d ws d0 he hw
        refine ⟨rd ws b, ev_k ?_⟩
        simp only [spec_l02Around.l0]
        rw [w64 (a := rd ds b + 1) (by omega) (by omega)]
        exact ev_pos b0 (ev_pos (by omega) (ev_neg (by omega) (ev_pos (by omega) (Ev.now _))))
      | succ e ih =>
        intro d ws d0 he hw
        by_cases y : d < rd ds b
        · have l1 : ∀ (f : Nat) (x : Int) (ws : List Int), 0 ≤ x → n - x ≤ f → (ws.length : Int) = n → ∃ c, Ev (fun k => spec_l02Around.l1 k a b ds ws d x n l) (rd ds b + 1, c) := by
            intro f
            induction f with
            | zero =>
              intro x ws x0 hf hw
              obtain ⟨c, hc⟩ := ih (d + 1) ws (by omega) (by omega) hw
              refine ⟨c, ev_k ?_⟩
              simp only [spec_l02Around.l1]
              rw [w64 (a := d + 1) (by omega) (by omega)]
              exact ev_neg (by omega) hc
            | succ f ihf =>
              intro x ws x0 hf hw
              by_cases xn : x < n
              · have l2 : ∀ (g : Nat) (u : Int) (ws : List Int), 0 ≤ u → u ≤ n → n - u ≤ g → (ws.length : Int) = n → ∃ c, Ev (fun k => spec_l02Around.l2 k a b ds ws d x u n l) (rd ds b + 1, c) := by
                  have stop : ∀ (u : Int) (ws : List Int), (ws.length : Int) = n → ∃ c, Ev (fun k => spec_l02Around.j3 k a b ds ws d x u false n l) (rd ds b + 1, c) := by
                    intro u ws hw
                    obtain ⟨c, hc⟩ := ihf (x + 1) ws (by omega) (by omega) hw
                    refine ⟨c, ev_k ?_⟩
                    simp only [spec_l02Around.j3]
                    rw [w64 (a := x + 1) (by omega) (by omega)]
                    exact ev_neg (by decide) hc
                  intro g
                  induction g with
                  | zero =>
                    intro u ws u0 u1 hg hw
                    obtain ⟨c, hc⟩ := stop u ws hw
                    refine ⟨c, ev_k ?_⟩
                    simp only [spec_l02Around.l2]
                    exact ev_neg (by omega) hc
                  | succ g ihg =>
                    intro u ws u0 u1 hg hw
                    by_cases un : u < n
                    · by_cases q : rd ds x = d
                      · obtain ⟨c, hc⟩ := ihg (u + 1) ws (by omega) (by omega) (by omega) hw
                        obtain ⟨c2, hc2⟩ := ihg (u + 1) (ws.set u.toNat (wrap64 (rd ws u + rd ws x))) (by omega) (by omega) (by omega) (by simpa using hw)
                        by_cases t1 : bits .and .i64 (shr .i64 (rd l x) u) 1 = 1 ∧ rd ds u = wrap64 (d + 1) ∧ ¬ (x = a ∧ u = b)
                        · refine ⟨c2, ev_k ?_⟩
                          simp only [spec_l02Around.l2]
                          refine ev_pos un (ev_pos x0 (ev_pos (by omega) (ev_k ?_)))
                          simp only [spec_l02Around.j3]
                          rw [wu64 u0 (by omega), w64 (a := u + 1) (by omega) (by omega)]
                          refine ev_pos (by simp [q]) (ev_pos x0 (ev_pos (by omega) (ev_pos u0 (ev_pos t1.1 (ev_pos u0 (ev_pos (by omega) (ev_pos t1.2.1 ?_)))))))
                          exact ev_ite (fun q1 => ev_ite (fun q2 => absurd ⟨q1, q2⟩ t1.2.2) fun _ => ev_pos (by omega) (ev_pos (by omega) hc2)) fun _ => ev_pos (by omega) (ev_pos (by omega) hc2)
                        · refine ⟨c, ev_k ?_⟩
                          simp only [spec_l02Around.l2]
                          refine ev_pos un (ev_pos x0 (ev_pos (by omega) (ev_k ?_)))
                          simp only [spec_l02Around.j3]
                          rw [wu64 u0 (by omega), w64 (a := u + 1) (by omega) (by omega)]
                          refine ev_pos (by simp [q]) (ev_pos x0 (ev_pos (by omega) (ev_pos u0 ?_)))
                          refine ev_ite (fun p1 => ev_pos u0 (ev_pos (by omega) (ev_ite (fun p2 => ?_) fun _ => hc))) fun _ => hc
                          exact ev_ite (fun q1 => ev_ite (fun _ => hc) fun q2 => absurd ⟨p1, p2, fun z => q2 z.2⟩ t1) fun q1 => absurd ⟨p1, p2, fun z => q1 z.1⟩ t1
                      · obtain ⟨c, hc⟩ := stop u ws hw
                        refine ⟨c, ev_k ?_⟩
                        simp only [spec_l02Around.l2]
                        rw [show (rd ds x == d) = false by simpa using q]
                        exact ev_pos un (ev_pos x0 (ev_pos (by omega) hc))
                    · obtain ⟨c, hc⟩ := stop u ws hw
                      refine ⟨c, ev_k ?_⟩
                      simp only [spec_l02Around.l2]
                      exact ev_neg un hc
                obtain ⟨c, hc⟩ := l2 n.toNat 0 ws (by omega) (by omega) (by omega) hw
                refine ⟨c, ev_k ?_⟩
                simp only [spec_l02Around.l1]
                exact ev_pos xn hc
              · obtain ⟨c, hc⟩ := ih (d + 1) ws (by omega) (by omega) hw
                refine ⟨c, ev_k ?_⟩
                simp only [spec_l02Around.l1]
                rw [w64 (a := d + 1) (by omega) (by omega)]
                exact ev_neg (by omega) hc
          obtain ⟨c, hc⟩ := l1 n.toNat 0 ws (by omega) (by omega) hw
          refine ⟨c, ev_k ?_⟩
          simp only [spec_l02Around.l0]
          exact ev_pos b0 (ev_pos (by omega) (ev_pos y hc))
        · refine ⟨rd ws b, ev_k ?_⟩
          simp only [spec_l02Around.l0]
          rw [w64 (a := rd ds b + 1) (by omega) (by omega)]
          exact ev_pos b0 (ev_pos (by omega) (ev_neg (by omega) (ev_pos (by omega) (Ev.now _))))
    obtain ⟨c, hc⟩ := l0 (rd ds b).toNat 0 ((List.replicate n.toNat 0).set a.toNat 1) (by omega) (by omega) (by simp; omega)
    refine ⟨c, Ev.bind hf (ev_pos b0 (ev_pos (by omega) (ev_neg z (ev_pos (by omega) (ev_pos (by omega) ?_)))))⟩
    simp only [Option.bind_some]
    exact ev_pos a0 (ev_pos (by simp; omega) hc)
end
theorem ar_comm {n : Int} {l : List Int} (h : isG n l) {a b : Int} (a0 : 0 ≤ a) (a1 : a < n) (b0 : 0 ≤ b) (b1 : b < n) : ar n l a b = ar n l b a := by
  unfold ar
  rw [cut_comm h.1 a0 a1 b0 b1, dist_sym (cut_isG h b0 b1 a0 a1) a0 a1 b0 b1]
end Go.Proofs.YtkmpkcofddpdgaaDoor.Q
namespace Go.Proofs.YtkmpkcofddpdgaaDoor.Q
open Go Go.RowKit Go.Proofs.YtkmpkcofddpdgaaDoor.P Go.Proofs.YtkmpkcofddpdgaaDoorW.PrintWords Go.Proofs.YtkmpkcofddpdgaaDoorW.PrintMore
def joined (m : List Int) (v u : Int) : List Int :=
  let y := m.set v.toNat (bits .or .i64 (rd m v) (shl .i64 1 u))
  y.set u.toNat (bits .or .i64 (rd y u) (shl .i64 1 v))
theorem Mx.joined {n : Int} {m : List Int} {P : Int → Int → Prop} (h : Mx n m P) (n2 : n ≤ 62) {v u : Int} (v0 : 0 ≤ v) (v1 : v < n) (u0 : 0 ≤ u) (u1 : u < n) : Mx n (joined m v u) (fun a b => P a b ∨ (a = v ∧ b = u) ∨ (a = u ∧ b = v)) :=
  ((h.or n2 v0 v1 u0 u1).or n2 u0 u1 v0 v1).imp fun a b _ _ _ _ => ⟨fun z => by rcases z with (z | z) | z; exact .inl z; exact .inr (.inl z); exact .inr (.inr z), fun z => by rcases z with z | z | z; exact .inl (.inl z); exact .inl (.inr z); exact .inr z⟩
theorem s_put (n : Int) (m : List Int) (v u : Int) (v0 : 0 ≤ v) (v1 : v < m.length) (u0 : 0 ≤ u) (u1 : u < m.length) (hm : m.length ≤ 62) : spec_l01Put.f n m v u = some (joined m v u) := by
  unfold spec_l01Put.f joined
  rw [wu64 v0 (by omega), wu64 u0 (by omega), if_pos v0, if_pos v1, if_pos u0]
  simp only [Option.bind_some]
  rw [if_pos u0, if_pos u1, if_pos v0]
end Go.Proofs.YtkmpkcofddpdgaaDoor.Q
namespace Go.Proofs.YtkmpkcofddpdgaaDoor.Q
open Go Go.RowKit Go.Proofs.YtkmpkcofddpdgaaDoor.P Go.Proofs.YtkmpkcofddpdgaaDoorW.PrintWords Go.Proofs.YtkmpkcofddpdgaaDoorW.PrintMore
theorem s_own (l : List Int) (hl : l.length ≤ 1048576) : spec_l01Own.f l = some l := by
  unfold spec_l01Own.f
  simp only [Option.bind_some, List.nil_append]
  rw [if_pos (by simp; omega)]
theorem sub_one {n x j : Int} (n2 : n ≤ 62) (hx : Rw n x) (j0 : 0 ≤ j) (j1 : j < n) (ht : tb x j = true) : Rw n (wrap64 (x - shl .i64 1 j)) ∧ ∀ w, 0 ≤ w → (tb (wrap64 (x - shl .i64 1 j)) w = true ↔ tb x w = true ∧ w ≠ j) := by
  obtain ⟨o1, o2⟩ := one_rw n2 j0 j1
  have e : bits .and .i64 x (shl .i64 1 j) = shl .i64 1 j := by
    obtain ⟨a, rfl, a1, a2⟩ := hx.nat n2
    rw [shl_one j0 (by omega), show ((2 : Int) ^ j.toNat) = ((2 ^ j.toNat : Nat) : Int) by simp]
    have p : 2 ^ j.toNat < 2 ^ 62 := Nat.pow_lt_pow_right (by decide) (by omega)
    rw [and_nat a (2 ^ j.toNat) (by omega) (by omega)]
    rw [tb_toNat (by omega) j0, Int.toNat_natCast] at ht
    have : a &&& 2 ^ j.toNat = 2 ^ j.toNat := by
      refine Nat.eq_of_testBit_eq fun i => ?_
      rw [Nat.testBit_and, Nat.testBit_two_pow]
      by_cases z : j.toNat = i
      · rw [← z, ht]
        simp
      · simp [z]
    rw [this]
  have m := minus_and n2 hx o1
  rw [e] at m
  exact ⟨m.1, fun w w0 => by rw [m.2 w w0, o2 w w0]⟩
theorem Mx.sub {n : Int} {l : List Int} {P : Int → Int → Prop} (h : Mx n l P) (n2 : n ≤ 62) {i j : Int} (i0 : 0 ≤ i) (i1 : i < n) (j0 : 0 ≤ j) (j1 : j < n) (hp : P i j) : Mx n (l.set i.toNat (wrap64 (rd l i - shl .i64 1 j))) (fun v w => P v w ∧ ¬ (v = i ∧ w = j)) := by
  refine ⟨by simpa using h.1, fun v v0 v1 => ?_⟩
  rw [rd_set _ i0 (by have := h.1; omega) v0]
  by_cases hv : v = i
  · rw [if_pos hv]
    subst hv
    obtain ⟨c1, c2⟩ := sub_one n2 (h.2 v v0 v1).1 j0 j1 (((h.2 v v0 v1).2 j j0 j1).2 hp)
    exact ⟨c1, fun w w0 w1 => by rw [c2 w w0, (h.2 v v0 v1).2 w w0 w1]; simp⟩
  · rw [if_neg hv]
    exact ⟨(h.2 v v0 v1).1, fun w w0 w1 => by rw [(h.2 v v0 v1).2 w w0 w1]; simp [hv]⟩
theorem s_cut {n : Int} {l : List Int} (h : rows n l) {a b : Int} (a0 : 0 ≤ a) (a1 : a < n) (b0 : 0 ≤ b) (b1 : b < n) (hab : a ≠ b) : spec_l01Cut.f n l a b = some (n, cutL l a b) := by
  have hl := h.2.2.1
  have n1 := h.1
  have n2 := h.2.1
  have hj := (mx_of h).joined n2 a0 a1 b0 b1
  have h1 := hj.sub n2 a0 a1 b0 b1 (.inr (.inl ⟨rfl, rfl⟩))
  have h2 := h1.sub n2 b0 b1 a0 a1 ⟨.inr (.inr ⟨rfl, rfl⟩), by omega⟩
  have e := Mx.eq (h2.imp fun w u w0 w1 u0 u1 => (show _ ↔ tb (rd l w) u = true ∧ ¬ (w = a ∧ u = b) ∧ ¬ (w = b ∧ u = a) by
    constructor
    · rintro ⟨⟨z | z | z, x⟩, y⟩
      · exact ⟨z, x, y⟩
      · exact absurd z x
      · exact absurd z y
    · rintro ⟨z, x, y⟩
      exact ⟨⟨.inl z, x⟩, y⟩)) (cut_mx h a0 a1 b0 b1) (by omega)
  have hjl := hj.1
  unfold spec_l01Cut.f spec_l01Join.f spec_l01Copy.f
  rw [s_own l (by omega)]
  simp only [Option.bind_some]
  rw [s_put n l a b a0 (by omega) b0 (by omega) (by omega)]
  simp only [Option.bind_some]
  rw [if_pos a0, if_pos (by omega), wu64 b0 (by omega), if_pos b0, wu64 a0 (by omega), if_pos b0, if_pos (by omega), if_pos a0, e]
end Go.Proofs.YtkmpkcofddpdgaaDoor.Q
namespace Go.Proofs.YtkmpkcofddpdgaaDoor.Q
open Go Go.RowKit Go.Proofs.YtkmpkcofddpdgaaDoor.P
theorem s_in (a b c : Int) : spec_l01In.f a b c = some (decide (b ≤ a ∧ a ≤ c)) := by
  unfold spec_l01In.f
  split
  · exact congrArg some (decide_eq_decide.2 (by omega))
  · exact congrArg some (decide_eq_false (by omega)).symm
end Go.Proofs.YtkmpkcofddpdgaaDoor.Q
namespace Go.Proofs.YtkmpkcofddpdgaaDoor.Q
open Go Go.RowKit
def pc : Nat → Nat → Nat
  | 0, _ => 0
  | n + 1, x => x % 2 + pc n (x / 2)
theorem pc_le (n : Nat) : ∀ x, pc n x ≤ n := by
  induction n with
  | zero => intro x; simp [pc]
  | succ n ih => intro x; simp only [pc]; have := ih (x / 2); omega
theorem pc_add (a : Nat) : ∀ b x, pc (a + b) x = pc a x + pc b (x / 2 ^ a) := by
  induction a with
  | zero => intro b x; simp [pc]
  | succ a ih =>
    intro b x
    rw [show a + 1 + b = (a + b) + 1 by omega]
    simp only [pc]
    rw [ih, Nat.div_div_eq_div_mul, Nat.pow_succ', Nat.add_assoc]
theorem pc_zero (n : Nat) : pc n 0 = 0 := by
  induction n with
  | zero => rfl
  | succ n ih => simp [pc, ih]
theorem pc_big {m n x : Nat} (h : x < 2 ^ m) (hn : m ≤ n) : pc n x = pc m x := by
  obtain ⟨b, rfl⟩ : ∃ b, n = m + b := ⟨n - m, by omega⟩
  rw [pc_add, Nat.div_eq_of_lt h, pc_zero]
  rfl
def rep (B d : Nat) : Nat → Nat
  | 0 => 0
  | n + 1 => rep B d n * B + d
theorem and_rep (w d n x : Nat) (hd : d < 2 ^ w) : x &&& rep (2 ^ w) d (n + 1) = (x / 2 ^ w &&& rep (2 ^ w) d n) * 2 ^ w + (x % 2 ^ w &&& d) := by
  have h1 : (x &&& rep (2 ^ w) d (n + 1)) / 2 ^ w = x / 2 ^ w &&& rep (2 ^ w) d n := by
    rw [Nat.and_div_two_pow]
    congr 1
    simp only [rep]
    rw [Nat.mul_comm, Nat.mul_add_div (Nat.two_pow_pos w), Nat.div_eq_of_lt hd]
    rfl
  have h2 : (x &&& rep (2 ^ w) d (n + 1)) % 2 ^ w = x % 2 ^ w &&& d := by
    rw [Nat.and_mod_two_pow]
    congr 1
    simp only [rep]
    rw [Nat.mul_comm, Nat.mul_add_mod, Nat.mod_eq_of_lt hd]
  have := Nat.div_add_mod (x &&& rep (2 ^ w) d (n + 1)) (2 ^ w)
  rw [h1, h2, Nat.mul_comm] at this
  exact this.symm
def sA (n x : Nat) : Nat := (x / 2 &&& rep 4 1 n) + (x &&& rep 4 1 n)
theorem sA_succ (n x : Nat) : sA (n + 1) x = sA n (x / 4) * 4 + pc 2 x := by
  have a := and_rep 2 1 n (x / 2) (by decide)
  have b := and_rep 2 1 n x (by decide)
  simp only [show (2 : Nat) ^ 2 = 4 from rfl, Nat.and_one_is_mod] at a b
  unfold sA
  rw [a, b, show x / 2 / 4 = x / 8 by omega, show x / 4 / 2 = x / 8 by omega]
  simp only [pc]
  omega
theorem sA_lt (n : Nat) : ∀ x, sA n x < 4 ^ n ∨ n = 0 ∧ sA n x = 0 := by
  induction n with
  | zero => intro x; right; exact ⟨rfl, by simp [sA, rep]⟩
  | succ n ih =>
    intro x
    left
    have := pc_le 2 x
    rw [sA_succ, Nat.pow_succ]
    rcases ih (x / 4) with h | ⟨rfl, h⟩
    · omega
    · rw [h]; omega
theorem digs (q a b : Nat) (ha : a ≤ 2) (hb : b ≤ 2) : (q * 16 + b * 4 + a) / 4 / 16 = q / 4 ∧ (q * 16 + b * 4 + a) / 16 = q ∧ (q * 16 + b * 4 + a) / 4 % 16 % 4 = b ∧ (q * 16 + b * 4 + a) % 16 % 4 = a := by
  have e : (q * 16 + b * 4 + a) / 4 = q * 4 + b := by omega
  rw [e, Nat.mod_mod_of_dvd _ (by decide : 4 ∣ 16), Nat.mod_mod_of_dvd _ (by decide : 4 ∣ 16)]
  omega
theorem digs2 (q a b : Nat) (ha : a ≤ 4) (hb : b ≤ 4) (hq : q % 16 ≤ 4) : ((q * 256 + b * 16 + a) / 16 + (q * 256 + b * 16 + a)) / 256 = q / 16 + q ∧ ((q * 256 + b * 16 + a) / 16 + (q * 256 + b * 16 + a)) % 256 % 16 = a + b := by
  have e : (q * 256 + b * 16 + a) / 16 = q * 16 + b := by omega
  rw [e, Nat.mod_mod_of_dvd _ (by decide : 16 ∣ 256)]
  omega
def sB (n x : Nat) : Nat := (sA (2 * n) x / 4 &&& rep 16 3 n) + (sA (2 * n) x &&& rep 16 3 n)
theorem sB_succ (n x : Nat) : sB (n + 1) x = sB n (x / 16) * 16 + pc 4 x := by
  have e : sA (2 * (n + 1)) x = sA (2 * n) (x / 16) * 16 + pc 2 (x / 4) * 4 + pc 2 x := by
    rw [show 2 * (n + 1) = (2 * n + 1) + 1 by omega, sA_succ, sA_succ, show x / 4 / 4 = x / 16 by omega]
    omega
  have p1 := pc_le 2 x
  have p2 := pc_le 2 (x / 4)
  have p4 : pc 4 x = pc 2 x + pc 2 (x / 4) := pc_add 2 2 x
  have a := and_rep 4 3 n (sA (2 * (n + 1)) x / 4) (by decide)
  have b := and_rep 4 3 n (sA (2 * (n + 1)) x) (by decide)
  have m3 : ∀ y : Nat, y &&& 3 = y % 4 := fun y => by simpa using Nat.and_two_pow_sub_one_eq_mod y 2
  simp only [show (2 : Nat) ^ 4 = 16 from rfl, m3] at a b
  unfold sB
  rw [a, b]
  obtain ⟨e1, e2, e3, e4⟩ := digs (sA (2 * n) (x / 16)) _ _ p1 p2
  rw [e, e1, e2, e3, e4, p4]
  omega
theorem sB_zero (x : Nat) : sB 0 x = 0 := by simp [sB, rep]
theorem sB_lt (n : Nat) : ∀ x, sB n x < 16 ^ n ∧ sB n x % 16 ≤ 4 := by
  induction n with
  | zero => intro x; rw [sB_zero]; omega
  | succ n ih =>
    intro x
    have := pc_le 4 x
    have := (ih (x / 16)).1
    rw [sB_succ, Nat.pow_succ]
    omega
def sC (n x : Nat) : Nat := sB (2 * n) x / 16 + sB (2 * n) x &&& rep 256 15 n
theorem sC_succ (n x : Nat) : sC (n + 1) x = sC n (x / 256) * 256 + pc 8 x := by
  have e : sB (2 * (n + 1)) x = sB (2 * n) (x / 256) * 256 + pc 4 (x / 16) * 16 + pc 4 x := by
    rw [show 2 * (n + 1) = (2 * n + 1) + 1 by omega, sB_succ, sB_succ, show x / 16 / 16 = x / 256 by omega]
    omega
  have p1 := pc_le 4 x
  have p2 := pc_le 4 (x / 16)
  have p8 : pc 8 x = pc 4 x + pc 4 (x / 16) := pc_add 4 4 x
  have q := (sB_lt (2 * n) (x / 256)).2
  have a := and_rep 8 15 n (sB (2 * (n + 1)) x / 16 + sB (2 * (n + 1)) x) (by decide)
  have m15 : ∀ y : Nat, y &&& 15 = y % 16 := fun y => by simpa using Nat.and_two_pow_sub_one_eq_mod y 4
  simp only [show (2 : Nat) ^ 8 = 256 from rfl, m15] at a
  unfold sC
  rw [a]
  obtain ⟨e1, e2⟩ := digs2 (sB (2 * n) (x / 256)) _ _ p1 p2 q
  rw [e, e1, e2, p8]
theorem sC_eight (x : Nat) : sC 8 x = pc 8 x + 256 * pc 8 (x / 256) + 65536 * pc 8 (x / 65536) + 16777216 * pc 8 (x / 16777216) + 4294967296 * pc 8 (x / 4294967296) + 1099511627776 * pc 8 (x / 1099511627776) + 281474976710656 * pc 8 (x / 281474976710656) + 72057594037927936 * pc 8 (x / 72057594037927936) := by
  have z : ∀ y, sC 0 y = 0 := fun y => by simp [sC, rep]
  have s : ∀ n y q, sC (n + 1) (y / q) = sC n (y / (q * 256)) * 256 + pc 8 (y / q) := fun n y q => by rw [sC_succ, Nat.div_div_eq_div_mul]
  rw [show (8 : Nat) = 7 + 1 from rfl, sC_succ 7 x, s 6 x, s 5 x, s 4 x, s 3 x, s 2 x, s 1 x, s 0 x, z]
  simp only [Nat.reduceMul, Nat.reduceAdd]
  omega
theorem pc_eight (x : Nat) : pc 64 x = pc 8 x + pc 8 (x / 256) + pc 8 (x / 65536) + pc 8 (x / 16777216) + pc 8 (x / 4294967296) + pc 8 (x / 1099511627776) + pc 8 (x / 281474976710656) + pc 8 (x / 72057594037927936) := by
  have h : ∀ n y, pc (8 + n) y = pc 8 y + pc n (y / 256) := fun n y => pc_add 8 n y
  rw [show 64 = 8 + (8 + (8 + (8 + (8 + (8 + (8 + 8)))))) from rfl]
  simp only [h, Nat.div_div_eq_div_mul, Nat.reduceMul]
  omega
set_option maxHeartbeats 1000000 in
theorem swar (x : Nat) : ((sC 8 x + sC 8 x / 256) + (sC 8 x + sC 8 x / 256) / 65536 + ((sC 8 x + sC 8 x / 256) + (sC 8 x + sC 8 x / 256) / 65536) / 4294967296) % 128 = pc 64 x := by
  rw [sC_eight, pc_eight]
  have a0 := pc_le 8 x
  have a1 := pc_le 8 (x / 256)
  have a2 := pc_le 8 (x / 65536)
  have a3 := pc_le 8 (x / 16777216)
  have a4 := pc_le 8 (x / 4294967296)
  have a5 := pc_le 8 (x / 1099511627776)
  have a6 := pc_le 8 (x / 281474976710656)
  have a7 := pc_le 8 (x / 72057594037927936)
  generalize pc 8 x = d0 at *
  generalize pc 8 (x / 256) = d1 at *
  generalize pc 8 (x / 65536) = d2 at *
  generalize pc 8 (x / 16777216) = d3 at *
  generalize pc 8 (x / 4294967296) = d4 at *
  generalize pc 8 (x / 1099511627776) = d5 at *
  generalize pc 8 (x / 281474976710656) = d6 at *
  generalize pc 8 (x / 72057594037927936) = d7 at *
  have e1 : (d0 + 256 * d1 + 65536 * d2 + 16777216 * d3 + 4294967296 * d4 + 1099511627776 * d5 + 281474976710656 * d6 + 72057594037927936 * d7) / 256 = d1 + 256 * d2 + 65536 * d3 + 16777216 * d4 + 4294967296 * d5 + 1099511627776 * d6 + 281474976710656 * d7 := by omega
  rw [e1]
  have e2 : (d0 + 256 * d1 + 65536 * d2 + 16777216 * d3 + 4294967296 * d4 + 1099511627776 * d5 + 281474976710656 * d6 + 72057594037927936 * d7 + (d1 + 256 * d2 + 65536 * d3 + 16777216 * d4 + 4294967296 * d5 + 1099511627776 * d6 + 281474976710656 * d7)) / 65536 = (d2 + d3) + 256 * (d3 + d4) + 65536 * (d4 + d5) + 16777216 * (d5 + d6) + 4294967296 * (d6 + d7) + 1099511627776 * d7 := by omega
  rw [e2]
  have e3 : (d0 + 256 * d1 + 65536 * d2 + 16777216 * d3 + 4294967296 * d4 + 1099511627776 * d5 + 281474976710656 * d6 + 72057594037927936 * d7 + (d1 + 256 * d2 + 65536 * d3 + 16777216 * d4 + 4294967296 * d5 + 1099511627776 * d6 + 281474976710656 * d7) + ((d2 + d3) + 256 * (d3 + d4) + 65536 * (d4 + d5) + 16777216 * (d5 + d6) + 4294967296 * (d6 + d7) + 1099511627776 * d7)) / 4294967296 = (d4 + d5 + d6 + d7) + 256 * (d5 + d6 + d7) + 65536 * (d6 + d7) + 16777216 * d7 := by omega
  rw [e3]
  omega
theorem sC_bound (x : Nat) : sC 8 x < 720575940379279360 := by
  rw [sC_eight]
  have a0 := pc_le 8 x
  have a1 := pc_le 8 (x / 256)
  have a2 := pc_le 8 (x / 65536)
  have a3 := pc_le 8 (x / 16777216)
  have a4 := pc_le 8 (x / 4294967296)
  have a5 := pc_le 8 (x / 1099511627776)
  have a6 := pc_le 8 (x / 281474976710656)
  have a7 := pc_le 8 (x / 72057594037927936)
  omega
theorem mA (x : Nat) (hx : x < 2 ^ 64) : IntKind.u64.wrap (bits .and .u64 ((x : Int) / 2) 6148914691236517205 + bits .and .u64 (x : Int) 6148914691236517205) = ((sA 32 x : Nat) : Int) ∧ sA 32 x < 2 ^ 64 := by
  have hb : sA 32 x < 2 ^ 64 := by rcases sA_lt 32 x with h | ⟨h, _⟩ <;> omega
  refine ⟨?_, hb⟩
  have e : rep 4 1 32 = 6148914691236517205 := by decide
  rw [show ((x : Int) / 2) = ((x / 2 : Nat) : Int) by omega, show (6148914691236517205 : Int) = ((6148914691236517205 : Nat) : Int) from rfl, uand_nat _ _ (by omega) (by decide), uand_nat _ _ hx (by decide)]
  rw [← e]
  rw [← Int.natCast_add]
  exact wu64 (by omega) (by unfold sA at hb; omega)
theorem mB (x : Nat) (hx : x < 2 ^ 64) : IntKind.u64.wrap (bits .and .u64 ((sA 32 x : Nat) / 4) 3689348814741910323 + bits .and .u64 (sA 32 x : Nat) 3689348814741910323) = ((sB 16 x : Nat) : Int) ∧ sB 16 x < 2 ^ 64 := by
  have ha := (mA x hx).2
  have hb : sB 16 x < 2 ^ 64 := (sB_lt 16 x).1
  refine ⟨?_, hb⟩
  have e : rep 16 3 16 = 3689348814741910323 := by decide
  rw [show (((sA 32 x : Nat) : Int) / 4) = ((sA 32 x / 4 : Nat) : Int) by omega, show (3689348814741910323 : Int) = ((3689348814741910323 : Nat) : Int) from rfl, uand_nat _ _ (by omega) (by decide), uand_nat _ _ ha (by decide)]
  rw [← e]
  rw [← Int.natCast_add]
  exact wu64 (by omega) (by unfold sB at hb; simp only [show 2 * 16 = 32 from rfl] at hb; omega)
theorem sB_half (x : Nat) : sB 16 x / 16 + sB 16 x < 2 ^ 64 := by
  have h := sB_succ 15 x
  have h1 := (sB_lt 15 (x / 16)).1
  have h2 := (sB_lt 15 (x / 16)).2
  have h3 := sB_succ 14 (x / 16)
  have e : sB 16 x < 6 * 16 ^ 15 := by
    have k : ∀ n y, sB n y * 15 + 4 ≤ 4 * 16 ^ n := by
      intro n
      induction n with
      | zero => intro y; rw [sB_zero]; omega
      | succ n ih =>
        intro y
        have := ih (y / 16)
        have := pc_le 4 y
        have p := Nat.one_le_two_pow (n := 4 * n)
        rw [sB_succ, Nat.pow_succ]
        have : 1 ≤ 16 ^ n := Nat.one_le_pow _ _ (by decide)
        omega
    have := k 16 x
    omega
  omega
theorem mC (x : Nat) : bits .and .u64 (IntKind.u64.wrap (((sB 16 x : Nat) : Int) / 16 + (sB 16 x : Nat))) 1085102592571150095 = ((sC 8 x : Nat) : Int) := by
  have hb := sB_half x
  have e : rep 256 15 8 = 1085102592571150095 := by decide
  rw [show (((sB 16 x : Nat) : Int) / 16 + (sB 16 x : Nat)) = ((sB 16 x / 16 + sB 16 x : Nat) : Int) by omega, wu64 (by omega) (by omega), show (1085102592571150095 : Int) = ((1085102592571150095 : Nat) : Int) from rfl, uand_nat _ _ hb (by decide)]
  rw [← e]
  rfl
end Go.Proofs.YtkmpkcofddpdgaaDoor.Q
namespace Go.Proofs.YtkmpkcofddpdgaaDoor.Q
open Go Go.RowKit Go.Proofs.YtkmpkcofddpdgaaDoor.P Go.Proofs.YtkmpkcofddpdgaaDoorW.PrintWords Go.Proofs.YtkmpkcofddpdgaaDoorW.PrintMore
set_option linter.unusedVariables false
theorem s_has (n : Int) (l : List Int) (v w : Int) (v0 : 0 ≤ v) (v1 : v < l.length) (w0 : 0 ≤ w) (w1 : w ≤ 63) : spec_l01Has.f n l v w = some (tb (rd l v) w) := by
  unfold spec_l01Has.f
  rw [if_pos v0, if_pos v1, wu64 w0 (by omega), if_pos w0, bit_is w0 w1]
section
variable {n : Int} {l : List Int} (n1 : 1 ≤ n) (n2 : n ≤ 62) (hn : (l.length : Int) = n)
include n1 n2 hn
theorem s_is_l1 (d : Nat) : ∀ v : Int, 0 ≤ v → v ≤ n → n - v = d → Says (fun k => spec_l01Is.l1 k v n l) (∀ a, v ≤ a → a < n → ∀ b, 0 ≤ b → b < a → tb (rd l a) b = tb (rd l b) a) := by
  induction d with
  | zero =>
    intro v v0 v1 hd
    refine says_k ?_
    simp only [spec_l01Is.l1]
    exact says_neg (by omega) (says_true fun a _ _ => by omega)
  | succ d ih =>
    intro v v0 v1 hd
    have hv : v < n := by omega
    have inner : ∀ (e : Nat) (w : Int), 0 ≤ w → w ≤ v → v - w = e → Says (fun k => spec_l01Is.l2 k v w n l) ((∀ b, w ≤ b → b < v → tb (rd l v) b = tb (rd l b) v) ∧ ∀ a, v + 1 ≤ a → a < n → ∀ b, 0 ≤ b → b < a → tb (rd l a) b = tb (rd l b) a) := by
      intro e
      induction e with
      | zero =>
        intro w w0 w1 he
        refine says_k ?_
        simp only [spec_l01Is.l2]
        refine says_neg (by omega) ?_
        rw [w64 (a := v + 1) (by omega) (by omega)]
        exact says_iff ⟨fun h => h.2, fun h => ⟨fun b _ _ => by omega, h⟩⟩ (ih (v + 1) (by omega) (by omega) (by omega))
      | succ e ihe =>
        intro w w0 w1 he
        refine says_k ?_
        simp only [spec_l01Is.l2]
        refine says_pos (by omega) ?_
        rw [s_has n l v w v0 (by omega) w0 (by omega), s_has n l w v w0 (by omega) v0 (by omega)]
        simp only [Option.bind_some]
        by_cases h : tb (rd l v) w = tb (rd l w) v
        · refine says_neg (by simp [h]) ?_
          rw [w64 (a := w + 1) (by omega) (by omega)]
          exact says_iff ⟨fun z => ⟨fun b b0 b1 => z.1 b (by omega) b1, z.2⟩, fun z => ⟨fun b b0 b1 => if hb : b = w then by rw [hb]; exact h else z.1 b (by omega) b1, z.2⟩⟩ (ihe (w + 1) (by omega) (by omega) (by omega))
        · exact says_pos (by simp [h]) (says_false fun z => h (z.1 w (by omega) (by omega)))
    refine says_k ?_
    simp only [spec_l01Is.l1]
    exact says_pos hv (says_iff ⟨fun z => ⟨fun b b0 b1 => z v (by omega) hv b b0 b1, fun a a0 a1 => z a (by omega) a1⟩, fun z a a0 a1 b b0 b1 => if ha : a = v then by subst ha; exact z.1 b b0 b1 else z.2 a (by omega) a1 b b0 b1⟩ (inner v.toNat 0 (by omega) (by omega) (by omega)))
theorem s_is_l0 (d : Nat) : ∀ v : Int, 0 ≤ v → v ≤ n → n - v = d → Says (fun k => spec_l01Is.l0 k v n l) ((∀ a, v ≤ a → a < n → (0 ≤ rd l a ∧ rd l a < 2 ^ n.toNat) ∧ tb (rd l a) a = false) ∧ ∀ a, 0 ≤ a → a < n → ∀ b, 0 ≤ b → b < a → tb (rd l a) b = tb (rd l b) a) := by
  have hp := two_pow_le (n := n) (by omega) n2
  induction d with
  | zero =>
    intro v v0 v1 hd
    refine says_k ?_
    simp only [spec_l01Is.l0]
    exact says_neg (by omega) (says_iff ⟨fun h => h.2, fun h => ⟨fun a _ _ => by omega, h⟩⟩ (s_is_l1 n1 n2 hn n.toNat 0 (by omega) (by omega) (by omega)))
  | succ d ih =>
    intro v v0 v1 hd
    refine says_k ?_
    simp only [spec_l01Is.l0]
    rw [wu64 (a := n) (by omega) (by omega), shl_one (by omega) n2, w64 (a := 2 ^ n.toNat - 1) (by omega) (by omega)]
    refine says_pos (by omega) (says_pos v0 (says_pos (by omega) (says_pos (by omega) ?_)))
    rw [s_in, s_has n l v v v0 (by omega) v0 (by omega)]
    simp only [Option.bind_some]
    by_cases h : 0 ≤ rd l v ∧ rd l v ≤ 2 ^ n.toNat - 1
    · refine says_pos (decide_eq_true h) ?_
      by_cases ht : tb (rd l v) v = true
      · exact says_pos ht (says_false fun z => by have := (z.1 v (by omega) (by omega)).2; rw [ht] at this; cases this)
      · refine says_neg ht ?_
        rw [w64 (a := v + 1) (by omega) (by omega)]
        refine says_iff ⟨fun z => ⟨fun a a0 a1 => z.1 a (by omega) a1, z.2⟩, fun z => ⟨fun a a0 a1 => if ha : a = v then ?_ else z.1 a (by omega) a1, z.2⟩⟩ (ih (v + 1) (by omega) (by omega) (by omega))
        subst ha
        exact ⟨by omega, by simpa using ht⟩
    · exact says_neg (by simpa using h) (says_false fun z => h (by have := (z.1 v (by omega) (by omega)).1; omega))
theorem i_is_l1 (v : Int) (v0 : 0 ≤ v) (v1 : v < n) (x : Int) (y3 y4 : Int) (y5 : List Int) (P : Prop) (hc : Says (fun k => impl_IsGraph.l0 k n y5 y3 (wrap64 (y4 + 1)) n l) P) (d : Nat) : ∀ w : Int, 0 ≤ w → w ≤ n → n - w = d →
    Says (fun k => impl_IsGraph.l1 k n v x y5 y3 y4 n w n l) ((∀ b, w ≤ b → b < n → tb x b = tb (rd l b) v) ∧ P) := by
  induction d with
  | zero =>
    intro w w0 w1 hd
    refine says_k ?_
    simp only [impl_IsGraph.l1]
    exact says_neg (by omega) (says_iff ⟨fun h => h.2, fun h => ⟨fun b _ _ => by omega, h⟩⟩ hc)
  | succ d ih =>
    intro w w0 w1 hd
    refine says_k ?_
    simp only [impl_IsGraph.l1]
    refine says_pos (by omega) (says_pos w0 (says_pos (by omega) (says_pos v0 ?_)))
    by_cases h : tb x w = tb (rd l w) v
    · refine says_pos ((bit_eq w0 (by omega) v0 (by omega)).2 h) ?_
      rw [w64 (a := w + 1) (by omega) (by omega)]
      exact says_iff ⟨fun z => ⟨fun b b0 b1 => z.1 b (by omega) b1, z.2⟩, fun z => ⟨fun b b0 b1 => if hb : b = w then by rw [hb]; exact h else z.1 b (by omega) b1, z.2⟩⟩ (ih (w + 1) (by omega) (by omega) (by omega))
    · exact says_neg (fun z => h ((bit_eq w0 (by omega) v0 (by omega)).1 z)) (says_false fun z => h (z.1 w (by omega) (by omega)))
theorem i_is_l0 (d : Nat) : ∀ v : Int, 0 ≤ v → v ≤ n → n - v = d → Says (fun k => impl_IsGraph.l0 k n l n v n l) (∀ a, v ≤ a → a < n → ((0 ≤ rd l a ∧ rd l a < 2 ^ n.toNat) ∧ tb (rd l a) a = false) ∧ ∀ b, 0 ≤ b → b < n → tb (rd l a) b = tb (rd l b) a) := by
  induction d with
  | zero =>
    intro v v0 v1 hd
    refine says_k ?_
    simp only [impl_IsGraph.l0]
    exact says_neg (by omega) (says_true fun a _ _ => by omega)
  | succ d ih =>
    intro v v0 v1 hd
    have hv : v < n := by omega
    have ih := ih (v + 1) (by omega) (by omega) (by omega)
    have bad : ∀ (P : Prop), ¬ P → Says (fun k => impl_IsGraph.j2 k n v (rd l v) l n v true n l) P := fun P hP => by
      refine says_k ?_
      simp only [impl_IsGraph.j2]
      exact says_pos trivial (says_false hP)
    refine says_k ?_
    simp only [impl_IsGraph.l0]
    refine says_pos hv (says_pos v0 (says_pos (by omega) ?_))
    by_cases h0 : rd l v < 0
    · exact says_pos h0 (bad _ fun z => by have := (z v (by omega) hv).1.1; omega)
    · refine says_neg h0 (says_pos (by omega) ?_)
      rw [shl_one (by omega) n2]
      by_cases h1 : rd l v ≥ 2 ^ n.toNat
      · exact says_pos h1 (bad _ fun z => by have := (z v (by omega) hv).1.1; omega)
      · refine says_neg h1 ?_
        rw [bit_is v0 (by omega)]
        cases ht : tb (rd l v) v with
        | true => exact bad _ fun z => by have := (z v (by omega) hv).1.2; rw [ht] at this; cases this
        | false =>
          refine says_k ?_
          simp only [impl_IsGraph.j2]
          refine says_neg (by decide) ?_
          refine says_iff ?_ (i_is_l1 n1 n2 hn v v0 hv (rd l v) n v l _ (by rw [w64 (a := v + 1) (by omega) (by omega)]; exact ih) n.toNat 0 (by omega) (by omega) (by omega))
          exact ⟨fun z => ⟨(z v (by omega) hv).2, fun a a0 a1 => z a (by omega) a1⟩, fun z a a0 a1 => if ha : a = v then by subst ha; exact ⟨⟨by omega, ht⟩, z.1⟩ else z.2 a (by omega) a1⟩
end
theorem s_is (n : Int) (l : List Int) : Says (fun k => spec_l01Is.f k n l) (isG n l) := by
  have bad : ¬ isG n l → Says (fun k => spec_l01Is.j0 k true n l) (isG n l) := fun h => by
    refine says_k ?_
    simp only [spec_l01Is.j0]
    exact says_pos trivial (says_false h)
  unfold spec_l01Is.f
  rw [s_in]
  simp only [Option.bind_some]
  by_cases h1 : 1 ≤ n ∧ n ≤ 62
  · refine says_pos (decide_eq_true h1) ?_
    by_cases h2 : (l.length : Int) = n
    · refine says_k ?_
      simp only [spec_l01Is.j0]
      refine says_neg (by simp [h2]) ?_
      refine says_iff ?_ (s_is_l0 h1.1 h1.2 h2 n.toNat 0 (by omega) (by omega) (by omega))
      constructor
      · exact fun ⟨⟨_, _, _, r⟩, lo, sy⟩ => ⟨fun a a0 a1 => ⟨r a a0 a1, lo a a0 a1⟩, fun a a0 a1 b b0 b1 => sy a b a0 a1 b0 (by omega)⟩
      · intro ⟨z, sy⟩
        refine ⟨⟨h1.1, h1.2, h2, fun a a0 a1 => (z a a0 a1).1⟩, fun a a0 a1 => (z a a0 a1).2, fun a b a0 a1 b0 b1 => ?_⟩
        rcases Int.lt_trichotomy a b with h | h | h
        · exact (sy b b0 b1 a a0 h).symm
        · rw [h]
        · exact sy a a0 a1 b b0 h
    · rw [show ((l.length : Int) != n) = true by simpa using h2]
      exact bad fun z => h2 z.1.2.2.1
  · exact says_neg (by simpa using h1) (bad fun z => h1 ⟨z.1.1, z.1.2.1⟩)
theorem i_is (n : Int) (l : List Int) : Says (fun k => impl_IsGraph.f k n l) (isG n l) := by
  have bad : ¬ isG n l → Says (fun k => impl_IsGraph.j0 k n true n l) (isG n l) := fun h => by
    refine says_k ?_
    simp only [impl_IsGraph.j0]
    exact says_pos trivial (says_false h)
  unfold impl_IsGraph.f
  by_cases h1 : n < 1
  · exact says_pos h1 (bad fun z => by have := z.1.1; omega)
  · refine says_neg h1 ?_
    by_cases h2 : n > 62
    · exact says_pos h2 (bad fun z => by have := z.1.2.1; omega)
    · refine says_neg h2 ?_
      by_cases h3 : (l.length : Int) = n
      · refine says_k ?_
        simp only [impl_IsGraph.j0]
        refine says_neg (by simp [h3]) ?_
        have := i_is_l0 (n := n) (l := l) (by omega) (by omega) h3 n.toNat 0 (by omega) (by omega) (by omega)
        rw [h3]
        refine says_iff ?_ this
        constructor
        · exact fun ⟨⟨_, _, _, r⟩, lo, sy⟩ a a0 a1 => ⟨⟨r a a0 a1, lo a a0 a1⟩, fun b b0 b1 => sy a b a0 a1 b0 b1⟩
        · exact fun z => ⟨⟨by omega, by omega, h3, fun a a0 a1 => (z a a0 a1).1.1⟩, fun a a0 a1 => (z a a0 a1).1.2, fun a b a0 a1 b0 b1 => (z a a0 a1).2 b b0 b1⟩
      · rw [show ((l.length : Int) != n) = true by simpa using h3]
        exact bad fun z => h3 z.1.2.2.1
end Go.Proofs.YtkmpkcofddpdgaaDoor.Q
namespace Go.Proofs.YtkmpkcofddpdgaaDoor.Q
open Go Go.RowKit Go.Proofs.YtkmpkcofddpdgaaDoor.P Go.Proofs.YtkmpkcofddpdgaaDoorW.PrintWords Go.Proofs.YtkmpkcofddpdgaaDoorW.PrintMore
def edgeRow (v : Int) (ws : List Int) : List (List Int) := (ws.filter fun w => decide (v < w)).map fun w => [v, w]
def edgesTo (l : List Int) : Nat → List (List Int)
  | 0 => []
  | m + 1 => edgesTo l m ++ edgeRow (m : Int) (ones (rd l (m : Int)))
theorem edgeRow_app (v : Int) (a b : List Int) : edgeRow v (a ++ b) = edgeRow v a ++ edgeRow v b := by simp [edgeRow]
theorem edgeRow_length (v : Int) (a : List Int) : (edgeRow v a).length ≤ a.length := by
  unfold edgeRow
  rw [List.length_map]
  exact List.length_filter_le _ _
theorem edgesTo_length (l : List Int) (m : Nat) : (edgesTo l m).length ≤ m * 62 := by
  induction m with
  | zero => simp [edgesTo]
  | succ m ih =>
    have a := edgeRow_length (m : Int) (ones (rd l (m : Int)))
    have b := ones_length (rd l (m : Int))
    simp only [edgesTo, List.length_append]
    omega
theorem edgesTo_mem {n : Int} {l : List Int} (h : rows n l) (m : Nat) (hm : (m : Int) ≤ n) (e : List Int) : e ∈ edgesTo l m ↔ ∃ v w : Int, (0 ≤ v ∧ v < m) ∧ (v < w ∧ w < n) ∧ tb (rd l v) w = true ∧ e = [v, w] := by
  have n2 := h.2.1
  induction m with
  | zero =>
    simp only [edgesTo, List.not_mem_nil, false_iff]
    rintro ⟨v, w, hv, _⟩
    omega
  | succ m ih =>
    have hr := h.2.2.2 (m : Int) (by omega) (by omega)
    simp only [edgesTo, List.mem_append]
    refine Iff.trans (or_congr (ih (by omega)) Iff.rfl) ?_
    constructor
    · rintro (⟨v, w, hv, hw⟩ | he)
      · exact ⟨v, w, by omega, hw⟩
      · obtain ⟨w, hw, rfl⟩ := List.mem_map.1 he
        obtain ⟨hw1, hw2⟩ := List.mem_filter.1 hw
        obtain ⟨w0, w1, wt⟩ := (ones_mem (by omega) n2 hr.1 hr.2 w).1 hw1
        exact ⟨m, w, by omega, ⟨by simpa using hw2, w1⟩, wt, rfl⟩
    · rintro ⟨v, w, hv, hw, ht, rfl⟩
      by_cases z : v = m
      · subst z
        refine .inr (List.mem_map.2 ⟨w, List.mem_filter.2 ⟨(ones_mem (by omega) n2 hr.1 hr.2 w).2 ⟨by omega, hw.2, ht⟩, by simpa using hw.1⟩, rfl⟩)
      · exact .inl ⟨v, w, by omega, hw, ht, rfl⟩
theorem s_edges {n : Int} {l : List Int} (h : rows n l) : Ev (fun k => spec_l01Edges.f k n l) (edgesTo l n.toNat) := by
  have n1 := h.1
  have n2 := h.2.1
  have hl := h.2.2.1
  have loop : ∀ (d v : Nat), (v : Int) ≤ n → n - v = d → Ev (fun k => spec_l01Edges.l0 k (edgesTo l v) v n l) (edgesTo l n.toNat) := by
    intro d
    induction d with
    | zero =>
      intro v v1 hd
      refine ev_k ?_
      simp only [spec_l01Edges.l0]
      refine ev_neg (by omega) (ev_some ?_)
      rw [show v = n.toNat by omega]
    | succ d ih =>
      intro v v1 hd
      have hr := h.2.2.2 (v : Int) (by omega) (by omega)
      have hp := two_pow_le (n := n) (by omega) n2
      have el := edgesTo_length l v
      have hto := ones_to (n := n) (by omega) n2 hr.1 hr.2
      have row : edgeRow (v : Int) (ones (rd l (v : Int))) = edgeRow v (onesFrom (rd l (v : Int)).toNat (n.toNat - (v + 1)) (v + 1)) := by
        rw [hto, show n.toNat = (v + 1) + (n.toNat - (v + 1)) by omega, onesFrom_add, edgeRow_app, Nat.zero_add]
        have : edgeRow (v : Int) (onesFrom (rd l (v : Int)).toNat (v + 1) 0) = [] := by
          unfold edgeRow
          rw [List.map_eq_nil_iff, List.filter_eq_nil_iff]
          intro w hw
          obtain ⟨i, rfl, _, h2, _⟩ := (onesFrom_mem _ _ _ _).1 hw
          simp
          omega
        rw [this, List.nil_append]
        congr 2
        omega
      have inner : ∀ (e w : Nat) (acc : List (List Int)), (w : Int) ≤ n → n.toNat - w = e → v < w → acc.length + e ≤ 4000 → acc ++ edgeRow v (onesFrom (rd l (v : Int)).toNat e w) = edgesTo l (v + 1) → Ev (fun k => spec_l01Edges.l1 k acc v w n l) (edgesTo l n.toNat) := by
        intro e
        induction e with
        | zero =>
          intro w acc w1 he hvw hal hacc
          have := ih (v + 1) (by omega) (by omega)
          rw [← hacc] at this
          simp only [onesFrom] at this
          rw [show edgeRow (v : Int) [] = [] from rfl, List.append_nil] at this
          refine ev_k ?_
          simp only [spec_l01Edges.l1]
          rw [w64 (a := (v : Int) + 1) (by omega) (by omega)]
          exact ev_neg (by omega) this
        | succ e ihe =>
          intro w acc w1 he hvw hal hacc
          have hh := s_has n l (v : Int) (w : Int) (by omega) (by omega) (by omega) (by omega)
          have htb : tb (rd l (v : Int)) (w : Int) = (rd l (v : Int)).toNat.testBit w := by rw [tb_toNat hr.1 (by omega), Int.toNat_natCast]
          refine ev_k ?_
          simp only [spec_l01Edges.l1, hh, Option.bind_some]
          rw [w64 (a := (w : Int) + 1) (by omega) (by omega)]
          refine ev_pos (by omega) ?_
          by_cases z : tb (rd l (v : Int)) (w : Int) = true
          · have := ihe (w + 1) (acc ++ [[(v : Int), (w : Int)]]) (by omega) (by omega) (by omega) (by simp; omega) (by
              rw [← hacc]
              simp only [onesFrom]
              rw [if_pos (by rw [← htb]; exact z)]
              rw [show (w : Int) :: onesFrom (rd l (v : Int)).toNat e (w + 1) = [(w : Int)] ++ onesFrom (rd l (v : Int)).toNat e (w + 1) from rfl, edgeRow_app, show edgeRow (v : Int) [(w : Int)] = [[(v : Int), (w : Int)]] by simp [edgeRow]; omega, List.append_assoc])
            exact ev_pos z (ev_pos (by omega) this)
          · have := ihe (w + 1) acc (by omega) (by omega) (by omega) (by omega) (by
              rw [← hacc]
              simp only [onesFrom]
              rw [if_neg (by rw [← htb]; exact z)])
            exact ev_neg z this
      have := inner (n.toNat - (v + 1)) (v + 1) (edgesTo l v) (by omega) rfl (by omega) (by omega) (by simp only [edgesTo]; rw [row])
      refine ev_k ?_
      simp only [spec_l01Edges.l0]
      rw [w64 (a := (v : Int) + 1) (by omega) (by omega)]
      exact ev_pos (by omega) this
  unfold spec_l01Edges.f
  exact loop n.toNat 0 (by omega) (by omega)
end Go.Proofs.YtkmpkcofddpdgaaDoor.Q
namespace Go.Proofs.YtkmpkcofddpdgaaDoor.Q
open Go Go.RowKit Go.Proofs.YtkmpkcofddpdgaaDoor.P Go.Proofs.YtkmpkcofddpdgaaDoorW.PrintWords Go.Proofs.YtkmpkcofddpdgaaDoorW.PrintMore
theorem rd_mem' {q : List Int} {i : Int} (i0 : 0 ≤ i) (i1 : i < q.length) : rd q i ∈ q := by
  have hu : i.toNat < q.length := by omega
  have : rd q i = q[i.toNat] := by simp [rd, List.getD_eq_getElem?_getD, List.getElem?_eq_getElem hu]
  rw [this]
  exact List.getElem_mem _
theorem mem_rd' {q : List Int} {u : Int} (h : u ∈ q) : ∃ i : Int, (0 ≤ i ∧ i < q.length) ∧ rd q i = u := by
  obtain ⟨i, hi, rfl⟩ := List.getElem_of_mem h
  exact ⟨i, by omega, by simp [rd, List.getD_eq_getElem?_getD, List.getElem?_eq_getElem hi]⟩
end Go.Proofs.YtkmpkcofddpdgaaDoor.Q
namespace Go.Proofs.YtkmpkcofddpdgaaDoor.Q
open Go Go.RowKit Go.Proofs.YtkmpkcofddpdgaaDoor.P Go.Proofs.YtkmpkcofddpdgaaDoorW.PrintWords Go.Proofs.YtkmpkcofddpdgaaDoorW.PrintMore
def MinP (S : Int → Prop) (r : Int) : Prop := (r = 0 ∧ ∀ x, S x → x = 0) ∨ (0 < r ∧ S r ∧ ∀ x, S x → x = 0 ∨ r ≤ x)
theorem MinP.uniq {S : Int → Prop} {a b : Int} (ha : MinP S a) (hb : MinP S b) : a = b := by
  rcases ha with ⟨a0, a1⟩ | ⟨a0, a1, a2⟩ <;> rcases hb with ⟨b0, b1⟩ | ⟨b0, b1, b2⟩
  · omega
  · have := a1 b b1; omega
  · have := b1 a a1; omega
  · have := a2 b b1
    have := b2 a a1
    omega
theorem MinP.imp {S T : Int → Prop} {a : Int} (h : MinP S a) (e : ∀ x, S x ↔ T x) : MinP T a := by
  have : S = T := funext fun x => propext (e x)
  exact this ▸ h
theorem MinP.none {S : Int → Prop} (h : ∀ x, ¬ S x) : MinP S 0 := .inl ⟨rfl, fun x hx => absurd hx (h x)⟩
def cmb (a b : Int) : Int := if b > 0 then (if a = 0 then b else if b < a then b else a) else a
theorem MinP.cmb {S T : Int → Prop} {a b : Int} (ha : MinP S a) (hb : MinP T b) : MinP (fun x => S x ∨ T x) (cmb a b) := by
  unfold Q.cmb
  rcases ha with ⟨a0, a1⟩ | ⟨a0, a1, a2⟩ <;> rcases hb with ⟨b0, b1⟩ | ⟨b0, b1, b2⟩
  · rw [if_neg (by omega)]
    exact .inl ⟨a0, fun x hx => hx.elim (a1 x) (b1 x)⟩
  · rw [if_pos b0, if_pos a0]
    exact .inr ⟨b0, .inr b1, fun x hx => hx.elim (fun y => .inl (a1 x y)) (b2 x)⟩
  · rw [if_neg (by omega)]
    exact .inr ⟨a0, .inl a1, fun x hx => hx.elim (a2 x) (fun y => .inl (b1 x y))⟩
  · rw [if_pos b0, if_neg (by omega)]
    split
    · exact .inr ⟨b0, .inr b1, fun x hx => hx.elim (fun y => by have := a2 x y; omega) (b2 x)⟩
    · exact .inr ⟨a0, .inl a1, fun x hx => hx.elim (a2 x) (fun y => by have := b2 x y; omega)⟩
theorem MinP.one {a : Int} (h : 0 ≤ a) : MinP (fun x => x = a) a := by
  by_cases z : a = 0
  · exact .inl ⟨z, fun x hx => by omega⟩
  · exact .inr ⟨by omega, rfl, fun x hx => by omega⟩
theorem ev_cmb {α : Type} {f : Int → Nat → Option α} {a b : Int} {r : α} (h : Ev (f (cmb a b)) r) : Ev (fun k => if b > 0 then (if a = 0 then f b k else (if b < a then f b k else f a k)) else f a k) r := by
  unfold cmb at h
  by_cases h1 : b > 0
  · rw [if_pos h1] at h
    refine ev_pos h1 ?_
    by_cases h2 : a = 0
    · rw [if_pos h2] at h
      exact ev_pos h2 h
    · rw [if_neg h2] at h
      refine ev_neg h2 ?_
      by_cases h3 : b < a
      · rw [if_pos h3] at h
        exact ev_pos h3 h
      · rw [if_neg h3] at h
        exact ev_neg h3 h
  · rw [if_neg h1] at h
    exact ev_neg h1 h
def Arounds (n : Int) (l : List Int) (x : Int) : Prop := ∃ a b, ((0 ≤ a ∧ a < b) ∧ b < n) ∧ tb (rd l a) b = true ∧ x = ar n l a b
section
variable {n : Int} {l : List Int} (h : isG n l)
include h
theorem i_girthAt {v : Int} (v0 : 0 ≤ v) (v1 : v < n) : ∃ g, MinP (fun x => ∃ w, (0 ≤ w ∧ w < n) ∧ tb (rd l v) w = true ∧ x = ar n l v w) g ∧ Ev (fun k => impl_Graph_girthAt.f k n l v) g := by
  have n1 := h.1.1
  have n2 := h.1.2.1
  have hl := h.1.2.2.1
  have hr := h.1.2.2.2 v v0 v1
  have hp := two_pow_le (n := n) (by omega) n2
  have om := fun w => ones_mem (n := n) (by omega) n2 hr.1 hr.2 w
  have ol := ones_length (rd l v)
  have loop : ∀ (d : Nat) (i acc : Int), 0 ≤ i → i ≤ (ones (rd l v)).length → (ones (rd l v)).length - i = d → MinP (fun x => ∃ j, (0 ≤ j ∧ j < i) ∧ x = ar n l v (rd (ones (rd l v)) j)) acc → ∃ g, MinP (fun x => ∃ w, (0 ≤ w ∧ w < n) ∧ tb (rd l v) w = true ∧ x = ar n l v w) g ∧ Ev (fun k => impl_Graph_girthAt.l0 k v acc (ones (rd l v)) ((ones (rd l v)).length : Int) i n l) g := by
    intro d
    induction d with
    | zero =>
      intro i acc i0 i1 hd hacc
      refine ⟨acc, hacc.imp fun x => ?_, ev_k ?_⟩
      · constructor
        · rintro ⟨j, hj, rfl⟩
          obtain ⟨w0, w1, wt⟩ := (om _).1 (rd_mem' hj.1 (by omega : j < (ones (rd l v)).length))
          exact ⟨_, ⟨w0, w1⟩, wt, rfl⟩
        · rintro ⟨w, hw, ht, rfl⟩
          obtain ⟨j, hj, e⟩ := mem_rd' ((om w).2 ⟨hw.1, hw.2, ht⟩)
          exact ⟨j, by omega, by rw [e]⟩
      · simp only [impl_Graph_girthAt.l0]
        exact ev_neg (by omega) (Ev.now _)
    | succ d ih =>
      intro i acc i0 i1 hd hacc
      obtain ⟨w0, w1, wt⟩ := (om _).1 (rd_mem' i0 (by omega : i < (ones (rd l v)).length))
      have hra := ar_range (l := l) v0 v1 w0 w1
      obtain ⟨g, hg, hE⟩ := ih (i + 1) (cmb acc (ar n l v (rd (ones (rd l v)) i))) (by omega) (by omega) (by omega) ((hacc.cmb (MinP.one hra.1)).imp fun x => by
        constructor
        · rintro (⟨j, hj, e⟩ | e)
          · exact ⟨j, by omega, e⟩
          · exact ⟨i, by omega, e⟩
        · rintro ⟨j, hj, e⟩
          by_cases z : j = i
          · rw [z] at e
            exact .inr e
          · exact .inl ⟨j, by omega, e⟩)
      refine ⟨g, hg, ev_k ?_⟩
      simp only [impl_Graph_girthAt.l0]
      rw [w64 (a := i + 1) (by omega) (by omega)]
      exact ev_pos (by omega) (ev_pos i0 (ev_pos (by omega) (Ev.bind (i_around h.1 v0 v1 w0 w1) (ev_cmb (f := fun a k => impl_Graph_girthAt.l0 k v a (ones (rd l v)) ((ones (rd l v)).length : Int) (i + 1) n l) hE))))
  obtain ⟨g, hg, hE⟩ := loop (ones (rd l v)).length 0 0 (by omega) (by omega) (by omega) (MinP.none fun x ⟨j, hj, _⟩ => by omega)
  refine ⟨g, hg, ?_⟩
  unfold impl_Graph_girthAt.f
  exact ev_pos v0 (ev_pos (by omega) (Ev.bind (i_list hr.1 (by omega)) hE))
theorem i_girth : ∃ g, MinP (Arounds n l) g ∧ Ev (fun k => impl_Graph_girth.f k n l) g := by
  have n1 := h.1.1
  have n2 := h.1.2.1
  have loop : ∀ (d : Nat) (v acc : Int), 0 ≤ v → v ≤ n → n - v = d → MinP (fun x => ∃ a, (0 ≤ a ∧ a < v) ∧ ∃ w, (0 ≤ w ∧ w < n) ∧ tb (rd l a) w = true ∧ x = ar n l a w) acc → ∃ g, MinP (Arounds n l) g ∧ Ev (fun k => impl_Graph_girth.l0 k acc n v n l) g := by
    intro d
    induction d with
    | zero =>
      intro v acc v0 v1 hd hacc
      refine ⟨acc, hacc.imp fun x => ?_, ev_k ?_⟩
      · constructor
        · rintro ⟨a, ha, w, hw, ht, e⟩
          rcases Int.lt_trichotomy a w with z | z | z
          · exact ⟨a, w, ⟨⟨ha.1, z⟩, hw.2⟩, ht, e⟩
          · rw [z, h.2.1 w hw.1 hw.2] at ht
            cases ht
          · refine ⟨w, a, ⟨⟨hw.1, z⟩, by omega⟩, by rw [← h.2.2 a w ha.1 (by omega) hw.1 hw.2]; exact ht, ?_⟩
            rw [e, ar_comm h ha.1 (by omega) hw.1 hw.2]
        · rintro ⟨a, b, hab, ht, e⟩
          exact ⟨a, by omega, b, by omega, ht, e⟩
      · simp only [impl_Graph_girth.l0]
        exact ev_neg (by omega) (Ev.now _)
    | succ d ih =>
      intro v acc v0 v1 hd hacc
      obtain ⟨b, hb, hbE⟩ := i_girthAt h v0 (by omega)
      obtain ⟨g, hg, hE⟩ := ih (v + 1) (cmb acc b) (by omega) (by omega) (by omega) ((hacc.cmb hb).imp fun x => by
        constructor
        · rintro (⟨a, ha, e⟩ | e)
          · exact ⟨a, by omega, e⟩
          · exact ⟨v, by omega, e⟩
        · rintro ⟨a, ha, e⟩
          by_cases z : a = v
          · rw [z] at e
            exact .inr e
          · exact .inl ⟨a, by omega, e⟩)
      refine ⟨g, hg, ev_k ?_⟩
      simp only [impl_Graph_girth.l0]
      rw [w64 (a := v + 1) (by omega) (by omega)]
      exact ev_pos (by omega) (Ev.bind hbE (ev_cmb (f := fun a k => impl_Graph_girth.l0 k a n (v + 1) n l) hE))
  unfold impl_Graph_girth.f
  exact loop n.toNat 0 0 (by omega) (by omega) (by omega) (MinP.none fun x ⟨j, hj, _⟩ => by omega)
theorem s_girth_of : ∃ g, MinP (Arounds n l) g ∧ Ev (fun k => spec_l02Girth.f k n l (-1)) g := by
  have n1 := h.1.1
  have n2 := h.1.2.1
  have hl := h.1.2.2.1
  have loop : ∀ (d : Nat) (v acc : Int), 0 ≤ v → v ≤ n → n - v = d → MinP (fun x => ∃ a b, ((0 ≤ a ∧ a < v) ∧ (a < b ∧ b < n)) ∧ tb (rd l a) b = true ∧ x = ar n l a b) acc → ∃ g, MinP (Arounds n l) g ∧ Ev (fun k => spec_l02Girth.l0 k (-1) acc v n l) g := by
    intro d
    induction d with
    | zero =>
      intro v acc v0 v1 hd hacc
      refine ⟨acc, hacc.imp fun x => ?_, ev_k ?_⟩
      · constructor
        · rintro ⟨a, b, hab, ht, e⟩
          exact ⟨a, b, by omega, ht, e⟩
        · rintro ⟨a, b, hab, ht, e⟩
          exact ⟨a, b, by omega, ht, e⟩
      · simp only [spec_l02Girth.l0]
        exact ev_neg (by omega) (Ev.now _)
    | succ d ih =>
      intro v acc v0 v1 hd hacc
      have inner : ∀ (e : Nat) (w acc : Int), v < w → w ≤ n → n - w = e → MinP (fun x => ∃ a b, ((0 ≤ a ∧ (a < v ∨ (a = v ∧ b < w))) ∧ (a < b ∧ b < n)) ∧ tb (rd l a) b = true ∧ x = ar n l a b) acc → ∃ g, MinP (Arounds n l) g ∧ Ev (fun k => spec_l02Girth.l1 k (-1) acc v w n l) g := by
        intro e
        induction e with
        | zero =>
          intro w acc w0 w1 he hacc
          obtain ⟨g, hg, hE⟩ := ih (v + 1) acc (by omega) (by omega) (by omega) (hacc.imp fun x => by
            constructor
            · rintro ⟨a, b, hab, ht, e⟩
              exact ⟨a, b, by omega, ht, e⟩
            · rintro ⟨a, b, hab, ht, e⟩
              exact ⟨a, b, by omega, ht, e⟩)
          refine ⟨g, hg, ev_k ?_⟩
          simp only [spec_l02Girth.l1]
          rw [w64 (a := v + 1) (by omega) (by omega)]
          exact ev_neg (by omega) hE
        | succ e ihe =>
          intro w acc w0 w1 he hacc
          have bq : bits .and .i64 (shr .i64 (rd l v) w) 1 = 0 ↔ ¬ tb (rd l v) w = true := by
            rw [bit_at (by omega) (by omega)]
            cases tb (rd l v) w <;> simp
          by_cases ht : tb (rd l v) w = true
          · obtain ⟨c, hc⟩ := s_around h.1 v0 (by omega : v < n) (by omega : 0 ≤ w) (by omega : w < n)
            have hra := ar_range (l := l) v0 (by omega : v < n) (by omega : 0 ≤ w) (by omega : w < n)
            obtain ⟨g, hg, hE⟩ := ihe (w + 1) (cmb acc (ar n l v w)) (by omega) (by omega) (by omega) ((hacc.cmb (MinP.one hra.1)).imp fun x => by
              constructor
              · rintro (⟨a, b, hab, ht, e⟩ | e)
                · exact ⟨a, b, by omega, ht, e⟩
                · exact ⟨v, w, by omega, ht, e⟩
              · rintro ⟨a, b, hab, ht, e⟩
                by_cases z : a = v ∧ b = w
                · rw [z.1, z.2] at e
                  exact .inr e
                · exact .inl ⟨a, b, by omega, ht, e⟩)
            refine ⟨g, hg, ev_k ?_⟩
            simp only [spec_l02Girth.l1]
            rw [wu64 (a := w) (by omega) (by omega)]
            refine ev_pos (by omega) (ev_pos v0 (ev_pos (by omega) (ev_pos (by omega) (ev_neg (fun z => bq.1 z ht) (ev_neg (by omega) (ev_k ?_))))))
            simp only [spec_l02Girth.j2]
            rw [w64 (a := w + 1) (by omega) (by omega)]
            exact ev_neg (by decide) (Ev.bind hc (ev_cmb (f := fun a k => spec_l02Girth.l1 k (-1) a v (w + 1) n l) hE))
          · obtain ⟨g, hg, hE⟩ := ihe (w + 1) acc (by omega) (by omega) (by omega) (hacc.imp fun x => by
              constructor
              · rintro ⟨a, b, hab, ht, e⟩
                exact ⟨a, b, by omega, ht, e⟩
              · rintro ⟨a, b, hab, ht2, e⟩
                refine ⟨a, b, ?_, ht2, e⟩
                by_cases z : a = v ∧ b = w
                · rw [z.1, z.2] at ht2
                  exact absurd ht2 ht
                · omega)
            refine ⟨g, hg, ev_k ?_⟩
            simp only [spec_l02Girth.l1]
            rw [wu64 (a := w) (by omega) (by omega)]
            refine ev_pos (by omega) (ev_pos v0 (ev_pos (by omega) (ev_pos (by omega) (ev_pos (bq.2 ht) (ev_k ?_)))))
            simp only [spec_l02Girth.j2]
            rw [w64 (a := w + 1) (by omega) (by omega)]
            exact ev_pos trivial hE
      obtain ⟨g, hg, hE⟩ := inner (n - (v + 1)).toNat (v + 1) acc (by omega) (by omega) (by omega) (hacc.imp fun x => by
        constructor
        · rintro ⟨a, b, hab, ht, e⟩
          exact ⟨a, b, by omega, ht, e⟩
        · rintro ⟨a, b, hab, ht, e⟩
          exact ⟨a, b, by omega, ht, e⟩)
      refine ⟨g, hg, ev_k ?_⟩
      simp only [spec_l02Girth.l0]
      rw [w64 (a := v + 1) (by omega) (by omega)]
      exact ev_pos (by omega) hE
  unfold spec_l02Girth.f
  exact loop n.toNat 0 0 (by omega) (by omega) (by omega) (MinP.none fun x ⟨a, b, hab, _⟩ => by omega)
theorem girths : ∃ g, (0 ≤ g ∧ g ≤ 62) ∧ MinP (Arounds n l) g ∧ Ev (fun k => spec_l02Girth.f k n l (-1)) g ∧ Ev (fun k => impl_Graph_girth.f k n l) g := by
  obtain ⟨g, hg, hE⟩ := i_girth h
  obtain ⟨g', hg', hE'⟩ := s_girth_of h
  have n2 := h.1.2.1
  obtain rfl := hg.uniq hg'
  refine ⟨g, ?_, hg, hE', hE⟩
  rcases hg with ⟨z, _⟩ | ⟨z, ⟨a, b, hab, _, e⟩, _⟩
  · omega
  · have := ar_range (l := l) (a := a) (b := b) hab.1.1 (by omega) (by omega : 0 ≤ b) hab.2
    omega
end
end Go.Proofs.YtkmpkcofddpdgaaDoor.Q
namespace Go.Proofs.YtkmpkcofddpdgaaDoor.Q
open Go Go.RowKit Go.Proofs.YtkmpkcofddpdgaaDoor.P Go.Proofs.YtkmpkcofddpdgaaDoorW.PrintWords Go.Proofs.YtkmpkcofddpdgaaDoorW.PrintMore
theorem s_bits_l0 (n : Nat) : ∀ (x : Nat) (acc : Int), x < 2 ^ n → n ≤ 63 → 0 ≤ acc → acc + n < 4611686018427387904 → Ev (fun k => spec_l01Bits.l0 k (x : Int) acc) (acc + pc n x) := by
  induction n with
  | zero =>
    intro x acc hx _ _ _
    refine ev_k ?_
    simp only [spec_l01Bits.l0]
    exact ev_neg (by omega) (ev_some (by simp [pc]))
  | succ n ih =>
    intro x acc hx hn h0 h1
    refine ev_k ?_
    simp only [spec_l01Bits.l0]
    have e1 : Int.tdiv (x : Int) 2 = ((x / 2 : Nat) : Int) := by rw [Int.tdiv_eq_ediv_of_nonneg (by omega)]; omega
    have e2 : Int.tmod (x : Int) 2 = ((x % 2 : Nat) : Int) := by rw [Int.tmod_eq_emod_of_nonneg (by omega)]; omega
    have p : (2 : Nat) ^ n ≤ 2 ^ 62 := Nat.pow_le_pow_right (by decide) (by omega)
    rw [Nat.pow_succ] at hx
    by_cases h : (x : Int) > 0
    · refine ev_pos h ?_
      rw [e1, e2, w64 (a := ((x / 2 : Nat) : Int)) (by omega) (by omega), w64 (a := acc + ((x % 2 : Nat) : Int)) (by omega) (by omega)]
      have := ih (x / 2) (acc + ((x % 2 : Nat) : Int)) (by omega) (by omega) (by omega) (by omega)
      simp only [pc]
      rwa [show acc + (((x % 2 + pc n (x / 2) : Nat)) : Int) = acc + ((x % 2 : Nat) : Int) + (pc n (x / 2) : Nat) by omega]
    · refine ev_neg h (ev_some ?_)
      obtain rfl : x = 0 := by omega
      rw [pc_zero]
      simp
theorem s_bits (x : Nat) (hx : x < 2 ^ 62) : Ev (fun k => spec_l01Bits.f k (x : Int)) (pc 64 x : Nat) := by
  unfold spec_l01Bits.f
  have := s_bits_l0 62 x 0 hx (by omega) (by omega) (by omega)
  rw [pc_big hx (by omega : 62 ≤ 64)]
  rwa [Int.zero_add] at this
theorem i_size (x : Nat) (hx : x < 2 ^ 62) : impl_size.f (x : Int) = some ((pc 64 x : Nat) : Int) := by
  unfold impl_size.f bits_OnesCount64.f
  rw [wu64 (a := (x : Int)) (by omega) (by omega)]
  rw [(mA x (by omega)).1, (mB x (by omega)).1, mC]
  have b := sC_bound x
  have s := swar x
  have p := pc_le 64 x
  have e1 : ((sC 8 x : Nat) : Int) + ((sC 8 x : Nat) : Int) / 256 = ((sC 8 x + sC 8 x / 256 : Nat) : Int) := by omega
  rw [e1, wu64 (a := ((sC 8 x + sC 8 x / 256 : Nat) : Int)) (by omega) (by omega)]
  generalize sC 8 x + sC 8 x / 256 = y at *
  have e2 : ((y : Nat) : Int) + ((y : Nat) : Int) / 65536 = ((y + y / 65536 : Nat) : Int) := by omega
  rw [e2, wu64 (a := ((y + y / 65536 : Nat) : Int)) (by omega) (by omega)]
  generalize y + y / 65536 = z at *
  have e3 : ((z : Nat) : Int) + ((z : Nat) : Int) / 4294967296 = ((z + z / 4294967296 : Nat) : Int) := by omega
  rw [e3, wu64 (a := ((z + z / 4294967296 : Nat) : Int)) (by omega) (by omega), w64 (by omega) (by omega)]
  generalize z + z / 4294967296 = t at *
  have e4 : bits .and .i64 ((t : Nat) : Int) 127 = ((t % 128 : Nat) : Int) := by
    have := and_nat t 127 (by omega) (by decide)
    rw [show ((127 : Nat) : Int) = 127 from rfl] at this
    rw [this]
    have := Nat.and_two_pow_sub_one_eq_mod t 7
    simpa using congrArg (fun n : Nat => (n : Int)) this
  rw [e4, s]
  rfl
def deg (l : List Int) (v : Int) : Int := (pc 64 (rd l v).toNat : Nat)
theorem s_degree {n : Int} {l : List Int} (h : rows n l) {v : Int} (v0 : 0 ≤ v) (v1 : v < n) : Ev (fun k => spec_l01Degree.f k n l v) (deg l v) := by
  obtain ⟨x, e, _, hx⟩ := h.nat v0 v1
  have hn := h.2.2.1
  unfold spec_l01Degree.f deg
  rw [e, Int.toNat_natCast]
  exact ev_pos v0 (ev_pos (by omega) (Ev.bind (s_bits x hx) (Ev.now _)))
theorem i_degree {n : Int} {l : List Int} (h : rows n l) {v : Int} (v0 : 0 ≤ v) (v1 : v < n) : impl_Graph_degree.f n l v = some (deg l v) := by
  obtain ⟨x, e, _, hx⟩ := h.nat v0 v1
  have hn := h.2.2.1
  unfold impl_Graph_degree.f deg
  rw [e, Int.toNat_natCast, if_pos v0, if_pos (by omega), i_size x hx]
  rfl
def degs (l : List Int) (m : Nat) : List Int := (List.range m).map fun (j : Nat) => deg l (j : Int)
theorem degs_length (l : List Int) (m : Nat) : (degs l m).length = m := by simp [degs]
theorem degs_succ (l : List Int) (m : Nat) : degs l (m + 1) = degs l m ++ [deg l m] := by simp [degs, List.range_succ]
theorem degs_at (l : List Int) (m : Nat) (i : Int) (h0 : 0 ≤ i) (h1 : i < m) : rd (degs l m) i = deg l i := by
  have : i.toNat < m := by omega
  simp [rd, degs, List.getD_eq_getElem?_getD, this]
  congr 1
  omega
theorem i_degrees {n : Int} {l : List Int} (h : rows n l) : Ev (fun k => impl_Graph_degrees.f k n l) (degs l n.toNat) := by
  have n2 := h.2.1
  have loop : ∀ (d : Nat) (i : Nat), (i : Int) ≤ n → n - i = d → Ev (fun k => impl_Graph_degrees.l0 k (degs l i) n i n l) (degs l n.toNat) := by
    intro d
    induction d with
    | zero =>
      intro i h1 hd
      refine ev_k ?_
      simp only [impl_Graph_degrees.l0]
      refine ev_neg (by omega) (ev_some ?_)
      rw [show i = n.toNat by omega]
    | succ d ih =>
      intro i h1 hd
      refine ev_k ?_
      simp only [impl_Graph_degrees.l0, i_degree h (show (0 : Int) ≤ i by omega) (show (i : Int) < n by omega), Option.bind_some]
      refine ev_pos (by omega) (ev_pos (by rw [degs_length]; omega) ?_)
      rw [w64 (by omega) (by omega), ← degs_succ]
      exact ih (i + 1) (by omega) (by omega)
  unfold impl_Graph_degrees.f
  have := loop n.toNat 0 (by have := h.1; omega) (by have := h.1; omega)
  exact this
end Go.Proofs.YtkmpkcofddpdgaaDoor.Q
namespace Go.Proofs.YtkmpkcofddpdgaaDoor.Q
open Go Go.RowKit Go.Proofs.YtkmpkcofddpdgaaDoor.P Go.Proofs.YtkmpkcofddpdgaaDoorW.PrintWords Go.Proofs.YtkmpkcofddpdgaaDoorW.PrintMore
section
variable {n : Int} {l : List Int} (h : rows n l) {s : Int} (s0 : 0 ≤ s) (s1 : s < n) {r : List Int} (hr : Dist n l s r) {t : Int} (t0 : 0 ≤ t) (t1 : t < n)
include h hr t0 t1
theorem s_far_l0 (e : Nat) : ∀ (d : Nat) (S L : Int), (62 : Int) - d = e → ¬ (0 ≤ rd r t ∧ rd r t < d) → Is n S (fun u => 0 ≤ rd r u ∧ rd r u ≤ d) → Is n L (fun u => rd r u = d) → Ev (fun k => spec_l07Far.l0 k t S L d n l) (rd r t) := by
  have n2 := h.2.1
  have hl := h.2.2.1
  have n0 : 0 ≤ n := by have := h.1; omega
  have stop : ∀ (d : Nat) (S : Int), ¬ (0 ≤ rd r t ∧ rd r t < d) → (∀ u, 0 ≤ u → u < n → rd r u ≠ d) → Ev (fun k => spec_l07Far.l0 k t S 0 d n l) (rd r t) := by
    intro d S hnot hno
    have a := hr.stops d (by omega) hno t t0 t1
    have b := hr.low t t0 t1
    rw [show rd r t = -1 by omega]
    refine ev_k ?_
    simp only [spec_l07Far.l0]
    exact ev_pos trivial (Ev.now _)
  induction e with
  | zero =>
    intro d S L he hnot hS hL
    have hno : ∀ u, 0 ≤ u → u < n → rd r u ≠ d := fun u u0 u1 => by have := hr.small u u0 u1; omega
    have : L = 0 := (hL.1.eq_zero n0).2 fun w w0 w1 z => hno w w0 w1 ((hL.2 w w0 w1).1 z)
    subst this
    exact stop d S hnot hno
  | succ e ih =>
    intro d S L he hnot hS hL
    by_cases hz : L = 0
    · subst hz
      exact stop d S hnot fun u u0 u1 z => (hL.1.eq_zero n0).1 rfl u u0 u1 ((hL.2 u u0 u1).2 z)
    · have bq : ∀ u, 0 ≤ u → u < n → (bits .and .i64 (shr .i64 L u) 1 = 1 ↔ rd r u = d) := fun u u0 u1 => by
        rw [bit_at u0 (by omega)]
        refine Iff.trans ?_ (hL.2 u u0 u1)
        cases tb L u <;> simp
      refine ev_k ?_
      simp only [spec_l07Far.l0]
      rw [wu64 t0 (by omega)]
      refine ev_neg hz (ev_pos t0 ?_)
      by_cases hd : rd r t = d
      · rw [hd]
        exact ev_pos ((bq t t0 t1).2 hd) (Ev.now _)
      · refine ev_neg (fun z => hd ((bq t t0 t1).1 z)) ?_
        have inner : ∀ (q : Nat) (v X : Int), 0 ≤ v → v ≤ n → n - v = q → Is n X (fun u => ∃ w, (0 ≤ w ∧ w < v) ∧ rd r w = d ∧ tb (rd l w) u = true) → Ev (fun k => spec_l07Far.l1 k t S L d X v n l) (rd r t) := by
          intro q
          induction q with
          | zero =>
            intro v X v0 v1 hq hX
            obtain rfl : v = n := by omega
            have o := or_rw n2 hS.1 hX.1
            have q := minus_and n2 hX.1 hS.1
            refine ev_k ?_
            simp only [spec_l07Far.l1]
            refine ev_neg (by omega) ?_
            rw [w64 (a := (d : Int) + 1) (by omega) (by omega)]
            refine ih (d + 1) _ _ (by omega) (by omega) ⟨o.1, fun u u0 u1 => ?_⟩ ⟨q.1, fun u u0 u1 => ?_⟩
            · rw [o.2 u u0]
              exact ((level_next hr (by omega) hX u u0 u1 (hS.2 u u0 u1)).1).trans (by omega)
            · rw [q.2 u u0]
              exact ((level_next hr (by omega) hX u u0 u1 (hS.2 u u0 u1)).2).trans (by omega)
          | succ q ihq =>
            intro v X v0 v1 hq hX
            refine ev_k ?_
            simp only [spec_l07Far.l1]
            rw [wu64 v0 (by omega), w64 (a := v + 1) (by omega) (by omega)]
            refine ev_pos (by omega) (ev_pos v0 ?_)
            by_cases hv : rd r v = d
            · refine ev_pos ((bq v v0 (by omega)).2 hv) (ev_pos v0 (ev_pos (by omega) ?_))
              have o := or_rw n2 hX.1 (h.2.2.2 v v0 (by omega))
              refine ihq (v + 1) _ (by omega) (by omega) (by omega) ⟨o.1, fun u u0 u1 => ?_⟩
              rw [o.2 u u0, hX.2 u u0 u1]
              constructor
              · rintro (⟨w, hw, hd', ht⟩ | ht)
                · exact ⟨w, by omega, hd', ht⟩
                · exact ⟨v, by omega, hv, ht⟩
              · rintro ⟨w, hw, hd', ht⟩
                by_cases e : w = v
                · subst e
                  exact .inr ht
                · exact .inl ⟨w, by omega, hd', ht⟩
            · refine ev_neg (fun z => hv ((bq v v0 (by omega)).1 z)) ?_
              refine ihq (v + 1) X (by omega) (by omega) (by omega) (hX.imp fun u u0 u1 => ?_)
              constructor
              · rintro ⟨w, hw, hd', ht⟩
                exact ⟨w, by omega, hd', ht⟩
              · rintro ⟨w, hw, hd', ht⟩
                by_cases e : w = v
                · subst e
                  exact absurd hd' hv
                · exact ⟨w, by omega, hd', ht⟩
        exact inner n.toNat 0 0 (by omega) n0 (by omega) ⟨(zero_rw n).1, fun u u0 u1 => ⟨fun z => absurd z ((zero_rw n).2 u), fun ⟨w, hw, _⟩ => by omega⟩⟩
include s0 s1
theorem s_far : Ev (fun k => spec_l07Far.f k n l s t) (rd r t) := by
  have n2 := h.2.1
  obtain ⟨o1, o2⟩ := one_rw n2 s0 s1
  unfold spec_l07Far.f
  rw [wu64 s0 (by omega)]
  refine ev_pos s0 (s_far_l0 h hr t0 t1 62 0 _ _ (by omega) (by omega) ⟨o1, fun u u0 u1 => ?_⟩ ⟨o1, fun u u0 u1 => ?_⟩)
  · rw [o2 u u0, ← hr.src u u0 u1]
    omega
  · rw [o2 u u0, ← hr.src u u0 u1]
    omega
end
end Go.Proofs.YtkmpkcofddpdgaaDoor.Q
namespace Go.Proofs.YtkmpkcofddpdgaaDoor.Q
open Go Go.RowKit Go.Proofs.YtkmpkcofddpdgaaDoor.P Go.Proofs.YtkmpkcofddpdgaaDoorW.PrintWords Go.Proofs.YtkmpkcofddpdgaaDoorW.PrintMore
def IsMax (r : List Int) (m : Int) : Prop := (∀ j : Int, 0 ≤ j → j < r.length → rd r j ≤ m) ∧ ∃ j : Int, 0 ≤ j ∧ j < r.length ∧ m = rd r j
theorem IsMax.uniq {r : List Int} {a b : Int} (ha : IsMax r a) (hb : IsMax r b) : a = b := by
  obtain ⟨a1, i, i0, i1, ia⟩ := ha
  obtain ⟨b1, j, j0, j1, jb⟩ := hb
  have := a1 j j0 j1
  have := b1 i i0 i1
  omega
open Classical in
noncomputable def top (r : List Int) : Int := if h : ∃ m, IsMax r m then h.choose else 0
theorem r_max_l0 (l : List Int) (hl : l.length ≤ 1152921504606846976) (d : Nat) : ∀ (m i : Int), 0 ≤ i → i ≤ l.length → l.length - i = d → ∃ r, Ev (fun k => slices_Max_int64_int64.l0 k l m i) r ∧ m ≤ r ∧ (∀ j : Int, i ≤ j → j < l.length → rd l j ≤ r) ∧ (r = m ∨ ∃ j : Int, i ≤ j ∧ j < l.length ∧ r = rd l j) := by
  induction d with
  | zero =>
    intro m i i0 i1 hd
    refine ⟨m, ev_k ?_, by omega, fun j _ _ => by omega, .inl rfl⟩
    simp only [slices_Max_int64_int64.l0]
    exact ev_neg (by omega) (Ev.now _)
  | succ d ih =>
    intro m i i0 i1 hd
    obtain ⟨r, hr, r1, r2, r3⟩ := ih (mx m (rd l i)) (i + 1) (by omega) (by omega) (by omega)
    have e : m ≤ mx m (rd l i) ∧ rd l i ≤ mx m (rd l i) ∧ (mx m (rd l i) = m ∨ mx m (rd l i) = rd l i) := by
      unfold mx
      split <;> omega
    refine ⟨r, ev_k ?_, by omega, fun j j0 j1 => if h : j = i then by rw [h]; omega else r2 j (by omega) j1, ?_⟩
    · simp only [slices_Max_int64_int64.l0]
      rw [w64 (a := i + 1) (by omega) (by omega)]
      exact ev_pos (by omega) (ev_pos i0 hr)
    · rcases r3 with h | ⟨j, j0, j1, h⟩
      · rcases e.2.2 with e | e
        · exact .inl (h.trans e)
        · exact .inr ⟨i, by omega, by omega, h.trans e⟩
      · exact .inr ⟨j, by omega, j1, h⟩
theorem r_max (l : List Int) (hl : l.length ≤ 1152921504606846976) (h0 : 0 < l.length) : ∃ r, Ev (fun k => slices_Max_int64_int64.f k l) r ∧ IsMax l r := by
  obtain ⟨r, hr, r1, r2, r3⟩ := r_max_l0 l hl (l.length - 1) (rd l 0) 1 (by omega) (by omega) (by omega)
  refine ⟨r, ?_, fun j j0 j1 => if h : j = 0 then by rw [h]; exact r1 else r2 j (by omega) j1, ?_⟩
  · unfold slices_Max_int64_int64.f
    exact ev_neg (by omega) (ev_pos (by omega) hr)
  · rcases r3 with h | ⟨j, j0, j1, h⟩
    · exact ⟨0, by omega, by omega, h⟩
    · exact ⟨j, by omega, j1, h⟩
end Go.Proofs.YtkmpkcofddpdgaaDoor.Q
namespace Go.Proofs.YtkmpkcofddpdgaaDoor.Q
open Go Go.RowKit Go.Proofs.YtkmpkcofddpdgaaDoor.P Go.Proofs.YtkmpkcofddpdgaaDoorW.PrintWords Go.Proofs.YtkmpkcofddpdgaaDoorW.PrintMore
theorem rd_at (l : List Int) (i : Int) (h1 : i.toNat < l.length) : rd l i = l[i.toNat] := by
  simp [rd, List.getD_eq_getElem?_getD, List.getElem?_eq_getElem h1]
theorem toS_l0 (l : List Int) (hl : l.length < 9223372036854775807) (d : Nat) : ∀ (m : List Int) (i : Int), 0 ≤ i → i ≤ l.length → l.length - i = d → m.length = l.length → (∀ j, j < i.toNat → m[j]? = l[j]?) →
    Ev (fun k => laws_toInt64S.l0 k l m i) l := by
  induction d with
  | zero =>
    intro m i h0 h1 hd hm hj
    refine ev_k ?_
    simp only [laws_toInt64S.l0]
    refine ev_neg (by omega) (ev_some (List.ext_getElem? fun j => ?_))
    by_cases h : j < i.toNat
    · exact hj j h
    · rw [List.getElem?_eq_none (by omega), List.getElem?_eq_none (by omega)]
  | succ d ih =>
    intro m i h0 h1 hd hm hj
    refine ev_k ?_
    simp only [laws_toInt64S.l0]
    refine ev_pos (by omega) (ev_pos h0 (ev_pos (by omega) ?_))
    rw [w64 (a := i + 1) (by omega) (by omega)]
    refine ih _ (i + 1) (by omega) (by omega) (by omega) (by simpa using hm) fun j h => ?_
    rw [List.getElem?_set]
    split
    · subst_vars
      rw [if_pos (by omega), rd_at l i (by omega), List.getElem?_eq_getElem]
    · exact hj j (by omega)
theorem toS (l : List Int) (hl : l.length ≤ 35184372088832) : Ev (fun k => laws_toInt64S.f k l) l := by
  unfold laws_toInt64S.f
  refine ev_pos (by omega) (ev_pos (by omega) ?_)
  exact toS_l0 l (by omega) l.length _ 0 (by omega) (by omega) (by omega) (by simp) (fun j h => by simp at h)
theorem eqS_l0 (l m : List Int) (e : l.length = m.length) (hl : l.length < 9223372036854775807) (d : Nat) : ∀ (i : Int), 0 ≤ i → i ≤ l.length → l.length - i = d →
    Ev (fun k => laws_eqInt64S.l0 k l m i) (decide (l.drop i.toNat = m.drop i.toNat)) := by
  have dc : ∀ (l : List Int) (i : Int), 0 ≤ i → i < l.length → l.drop i.toNat = rd l i :: l.drop (i + 1).toNat := fun l i h0 h1 => by
    rw [List.drop_eq_getElem_cons (by omega : i.toNat < l.length), show (i + 1).toNat = i.toNat + 1 by omega, rd_at l i (by omega)]
  induction d with
  | zero =>
    intro i h0 h1 hd
    refine ev_k ?_
    simp only [laws_eqInt64S.l0]
    refine ev_neg (by omega) (ev_some ?_)
    rw [List.drop_of_length_le (by omega), List.drop_of_length_le (by omega)]
    rfl
  | succ d ih =>
    intro i h0 h1 hd
    refine ev_k ?_
    simp only [laws_eqInt64S.l0]
    refine ev_pos (by omega) (ev_pos h0 (ev_pos (by omega) ?_))
    rw [w64 (a := i + 1) (by omega) (by omega), dc l i h0 (by omega), dc m i h0 (by omega)]
    by_cases h : rd l i = rd m i
    · refine ev_pos h ?_
      simp only [List.cons.injEq, h, true_and]
      exact ih (i + 1) (by omega) (by omega) (by omega)
    · refine ev_neg h (ev_some ?_)
      simp [h]
theorem eqS (l m : List Int) (hl : l.length < 9223372036854775807) : Ev (fun k => laws_eqInt64S.f k l m) (decide (l = m)) := by
  unfold laws_eqInt64S.f
  by_cases e : l.length = m.length
  · refine ev_pos (by omega) ?_
    simpa using eqS_l0 l m e hl l.length 0 (by omega) (by omega) (by omega)
  · refine ev_neg (by omega) (ev_some ?_)
    exact (decide_eq_false fun h => e (by rw [h])).symm
theorem eqS_self (l : List Int) (hl : l.length < 9223372036854775807) : Ev (fun k => laws_eqInt64S.f k l l) true := by
  simpa using eqS l l hl
theorem szS (l : List Int) (hl : l.length ≤ maxLen) : laws_szInt64S.f l 1048576 = some (if l.length ≤ 1048576 then 1048576 - (l.length : Int) else -1) := by
  unfold maxLen at hl
  unfold laws_szInt64S.f
  rw [w64 (by omega) (by omega)]
  by_cases h : l.length ≤ 1048576
  · rw [if_neg (by omega), if_pos h]
  · rw [if_pos (by omega), if_neg h]
end Go.Proofs.YtkmpkcofddpdgaaDoor.Q
namespace Go.Proofs.YtkmpkcofddpdgaaDoor.Q
open Go Go.RowKit Go.Proofs.YtkmpkcofddpdgaaDoor.P Go.Proofs.YtkmpkcofddpdgaaDoorW.PrintWords Go.Proofs.YtkmpkcofddpdgaaDoorW.PrintMore
theorem szG (n : Int) (l : List Int) (hl : l.length ≤ maxLen) : laws_szGraph.f n l 1048576 = some (if l.length ≤ 1048576 then 1048576 - (l.length : Int) else -1) := by
  unfold laws_szGraph.f
  rw [szS l hl]
  simp only [Option.bind_some]
  by_cases h : l.length ≤ 1048576
  · rw [if_pos h, if_neg (by omega)]
  · rw [if_neg h, if_pos (by decide)]
theorem toG (n : Int) (l : List Int) (hl : l.length ≤ 1048576) : Ev (fun m => laws_toGraph.f m n l) (n, l) := by
  unfold laws_toGraph.f
  exact Ev.bind (toS l (by omega)) (Ev.now _)
theorem eqG (n : Int) (l : List Int) (hl : l.length ≤ 1048576) : Ev (fun m => laws_eqGraph.f m n l n l) true := by
  unfold laws_eqGraph.f
  exact ev_pos rfl (Ev.bind (eqS_self l (by omega)) (ev_pos rfl (Ev.now _)))
end Go.Proofs.YtkmpkcofddpdgaaDoor.Q
namespace Go.Proofs.YtkmpkcofddpdgaaDoor.Pure
open Go Go.RowKit Go.Proofs.YtkmpkcofddpdgaaDoor.P Go.Proofs.YtkmpkcofddpdgaaDoorW.PrintWords Go.Proofs.YtkmpkcofddpdgaaDoorW.PrintLast Go.Proofs.YtkmpkcofddpdgaaDoorW.PrintMore Go.Proofs.YtkmpkcofddpdgaaDoor.Q
def fitsP (n : Int) (l : List Int) (c e : Int) : Prop := (∀ v, 0 ≤ v → v < n → deg l v ≤ c) ∧ ∀ x, Arounds n l x → ¬ (1 < x ∧ x < e)
section
variable {n : Int} {l : List Int} (h : isG n l) (c e : Int)
include h
omit h in
theorem ar_ne {a b : Int} (a0 : 0 ≤ a) (ab : a < b) (b1 : b < n) : ar n l a b ≠ 1 := by
  have hd := dist_of n (cutL l a b) a (by omega)
  intro z
  have := (hd.src b (by omega) b1).1 (by unfold ar at z; omega)
  omega
theorem s_fits : Says (fun k => spec_l07Fits.f k n l c e) (fitsP n l c e) := by
  have n1 := h.1.1
  have n2 := h.1.2.1
  have el := edgesTo_length l n.toNat
  have em := edgesTo_mem h.1 n.toNat (by omega)
  have l1 : ∀ (d : Nat) (i : Int), 0 ≤ i → i ≤ (edgesTo l n.toNat).length → (edgesTo l n.toNat).length - i = d → Says (fun k => spec_l07Fits.l1 k e (edgesTo l n.toNat) i n l) (∀ j, i ≤ j → j < (edgesTo l n.toNat).length → ∀ a b, rd_L1 (edgesTo l n.toNat) j = [a, b] → ¬ (1 < ar n l a b ∧ ar n l a b < e)) := by
    intro d
    induction d with
    | zero =>
      intro i i0 i1 hd
      refine says_k ?_
      simp only [spec_l07Fits.l1]
      exact says_neg (by omega) (says_true fun j _ _ => by omega)
    | succ d ih =>
      intro i i0 i1 hd
      have hlt : i.toNat < (edgesTo l n.toNat).length := by omega
      have hrd : rd_L1 (edgesTo l n.toNat) i = (edgesTo l n.toNat)[i.toNat] := by simp [rd_L1, List.getD_eq_getElem?_getD, List.getElem?_eq_getElem hlt]
      obtain ⟨a, b, ha, hb, ht, hab⟩ := (em _).1 (List.getElem_mem hlt)
      rw [hab] at hrd
      have hfar := s_far (cut_rows h.1 ha.1 (by omega : a < n) (by omega : 0 ≤ b) hb.2) (s := a) ha.1 (by omega) (dist_of n (cutL l a b) a (by omega)) (t := b) (by omega) hb.2
      have hsm := (dist_of n (cutL l a b) a (by omega)).small b (by omega) hb.2
      have next := ih (i + 1) (by omega) (by omega) (by omega)
      have same : ¬ (1 < ar n l a b ∧ ar n l a b < e) → ((∀ j, i ≤ j → j < (edgesTo l n.toNat).length → ∀ a b, rd_L1 (edgesTo l n.toNat) j = [a, b] → ¬ (1 < ar n l a b ∧ ar n l a b < e)) ↔ (∀ j, i + 1 ≤ j → j < (edgesTo l n.toNat).length → ∀ a b, rd_L1 (edgesTo l n.toNat) j = [a, b] → ¬ (1 < ar n l a b ∧ ar n l a b < e))) := fun q =>
        ⟨fun z j j0 j1 => z j (by omega) j1, fun z j j0 j1 a' b' hj => by
          by_cases y : j = i
          · rw [y, hrd] at hj
            injection hj with e1 e2
            injection e2 with e2 _
            rw [← e1, ← e2]
            exact q
          · exact z j (by omega) j1 a' b' hj⟩
      refine says_k ?_
      simp only [spec_l07Fits.l1]
      rw [hrd]
      have e0 : rd [a, b] 0 = a := rfl
      have e1 : rd [a, b] 1 = b := rfl
      rw [e0, e1, s_cut h.1 ha.1 (by omega) (by omega) hb.2 (by omega)]
      simp only [Option.bind_some]
      rw [w64 (a := i + 1) (by omega) (by omega)]
      refine says_pos (by omega) (says_pos i0 (says_pos (by simp) (says_pos (by simp) (says_bind hfar ?_))))
      have har : ar n l a b = rd (dist n (cutL l a b) a) b + 1 := rfl
      by_cases z : rd (dist n (cutL l a b) a) b > 0
      · refine says_pos z ?_
        rw [w64 (a := rd (dist n (cutL l a b) a) b + 1) (by omega) (by omega)]
        by_cases y : rd (dist n (cutL l a b) a) b + 1 < e
        · exact says_pos y (says_false fun q => q i (Int.le_refl _) (by omega) a b hrd ⟨by omega, by omega⟩)
        · exact says_neg y (says_iff (same (by omega)) next)
      · exact says_neg z (says_iff (same (by omega)) next)
  have l0 : ∀ (d : Nat) (v : Int), 0 ≤ v → v ≤ n → n - v = d → Says (fun k => spec_l07Fits.l0 k c e v n l) ((∀ w, v ≤ w → w < n → deg l w ≤ c) ∧ ∀ x, Arounds n l x → ¬ (1 < x ∧ x < e)) := by
    intro d
    induction d with
    | zero =>
      intro v v0 v1 hd
      refine says_k ?_
      simp only [spec_l07Fits.l0]
      refine says_neg (by omega) (says_bind (s_edges h.1) (says_iff ?_ (l1 (edgesTo l n.toNat).length 0 (by omega) (by omega) (by omega))))
      constructor
      · rintro ⟨_, z⟩ j j0 j1 a b hj
        have hlt : j.toNat < (edgesTo l n.toNat).length := by omega
        have hrd : rd_L1 (edgesTo l n.toNat) j = (edgesTo l n.toNat)[j.toNat] := by simp [rd_L1, List.getD_eq_getElem?_getD, List.getElem?_eq_getElem hlt]
        obtain ⟨a', b', ha, hb, ht, hab⟩ := (em _).1 (List.getElem_mem hlt)
        rw [hrd, hab] at hj
        injection hj with e1 e2
        injection e2 with e2 _
        rw [← e1, ← e2]
        exact z _ ⟨a', b', by omega, ht, rfl⟩
      · intro z
        refine ⟨fun w _ _ => by omega, ?_⟩
        rintro x ⟨a, b, hab, ht, rfl⟩
        obtain ⟨i, hi, e⟩ := List.getElem_of_mem ((em [a, b]).2 ⟨a, b, by omega, by omega, ht, rfl⟩)
        refine z i (by omega) (by omega) a b ?_
        simp [rd_L1, List.getD_eq_getElem?_getD, List.getElem?_eq_getElem hi, e]
    | succ d ih =>
      intro v v0 v1 hd
      refine says_k ?_
      simp only [spec_l07Fits.l0]
      refine says_pos (by omega) (says_bind (s_degree h.1 v0 (by omega)) ?_)
      by_cases z : deg l v > c
      · exact says_pos z (says_false fun q => by have := q.1 v (Int.le_refl _) (by omega); omega)
      · refine says_neg z ?_
        rw [w64 (a := v + 1) (by omega) (by omega)]
        refine says_iff (and_congr ⟨fun q w w0 w1 => q w (by omega) w1, fun q w w0 w1 => ?_⟩ Iff.rfl) (ih (v + 1) (by omega) (by omega) (by omega))
        by_cases y : w = v
        · rw [y]; omega
        · exact q w (by omega) w1
  unfold spec_l07Fits.f
  exact says_iff (and_congr ⟨fun q w w0 w1 => q w w0 w1, fun q w w0 w1 => q w w0 w1⟩ Iff.rfl) (l0 n.toNat 0 (by omega) (by omega) (by omega))
theorem i_fits : Says (fun k => impl_Graph_fits.f k n l c e) (fitsP n l c e) := by
  have n1 := h.1.1
  have n2 := h.1.2.1
  have hdl := degs_length l n.toNat
  obtain ⟨g, _, hg, _, hgi⟩ := girths h
  obtain ⟨D, hD, hmax⟩ := r_max (degs l n.toNat) (by omega) (by omega)
  have hmd : D ≤ c ↔ ∀ v, 0 ≤ v → v < n → deg l v ≤ c := by
    obtain ⟨m1, j, j0, j1, ej⟩ := hmax
    constructor
    · intro z v v0 v1
      have := m1 v v0 (by omega)
      rw [degs_at l _ v v0 (by omega)] at this
      omega
    · intro z
      rw [ej, degs_at l _ j j0 (by omega)]
      exact z j j0 (by omega)
  have hmg : (g = 0 ∨ g ≥ e) ↔ ∀ x, Arounds n l x → ¬ (1 < x ∧ x < e) := by
    rcases hg with ⟨z, q⟩ | ⟨z, ⟨a, b, hab, ht, ea⟩, q⟩
    · exact ⟨fun _ x hx => by have := q x hx; omega, fun _ => .inl z⟩
    · constructor
      · rintro (y | y) x hx
        · omega
        · have := q x hx
          omega
      · intro y
        have := y g ⟨a, b, hab, ht, ea⟩
        have := ar_ne (l := l) hab.1.1 hab.1.2 hab.2
        omega
  unfold impl_Graph_fits.f
  refine says_bind hgi (says_bind (i_degrees h.1) (says_bind hD ?_))
  by_cases z : D ≤ c
  · refine says_pos z ?_
    by_cases y : g = 0
    · exact says_pos y (says_true ⟨hmd.1 z, hmg.1 (.inl y)⟩)
    · refine says_neg y (says_iff ⟨fun q => decide_eq_true ?_, fun q => ⟨hmd.1 z, hmg.1 (.inr (of_decide_eq_true q))⟩⟩ (says_now _))
      exact (hmg.2 q.2).resolve_left y
  · exact says_neg z (says_false fun q => z (hmd.2 q.1))
end
theorem both (n : Int) (l : List Int) (c e : Int) : ∃ b q, Ev (fun k => spec_FitsBoth.f k n l c e) (b, q) ∧ Ev (fun k => impl_FitsBoth.f k n l c e) (b, q) := by
  unfold spec_FitsBoth.f impl_FitsBoth.f
  have hs : spec_l07Numbers.f c e = some (decide ((1 ≤ c ∧ c ≤ 6) ∧ 3 ≤ e ∧ e ≤ 12)) := by
    unfold spec_l07Numbers.f
    simp only [s_in, Option.bind_some]
    by_cases z : 1 ≤ c ∧ c ≤ 6
    · rw [if_pos (decide_eq_true z)]
      exact congrArg some (decide_eq_decide.2 (by omega))
    · rw [if_neg (by simpa using z)]
      exact congrArg some (decide_eq_false (by omega)).symm
  have hi : impl_isBoth.f c e = some (decide ((1 ≤ c ∧ c ≤ 6) ∧ 3 ≤ e ∧ e ≤ 12)) := by
    unfold impl_isBoth.f
    split
    · split
      · split
        · exact congrArg some (decide_eq_decide.2 (by omega))
        · exact congrArg some (decide_eq_false (by omega)).symm
      · exact congrArg some (decide_eq_false (by omega)).symm
    · exact congrArg some (decide_eq_false (by omega)).symm
  rw [hs]
  simp only [Option.bind_some]
  by_cases hg : isG n l
  · by_cases z : (1 ≤ c ∧ c ≤ 6) ∧ 3 ≤ e ∧ e ≤ 12
    · have hb : Ev (fun k => impl_bothCode.f k n l c e) 0 := by
        unfold impl_bothCode.f
        rw [hi]
        exact Ev.bind ((i_is n l).yes hg) (ev_pos rfl (ev_pos (decide_eq_true z) (Ev.now _)))
      by_cases y : fitsP n l c e
      · exact ⟨true, 0, Ev.bind ((s_is n l).yes hg) (ev_pos rfl (ev_pos (decide_eq_true z) (Ev.bind ((s_fits hg c e).yes y) (Ev.now _)))), Ev.bind hb (ev_pos rfl (Ev.bind ((i_fits hg c e).yes y) (Ev.now _)))⟩
      · exact ⟨false, 0, Ev.bind ((s_is n l).yes hg) (ev_pos rfl (ev_pos (decide_eq_true z) (Ev.bind ((s_fits hg c e).no y) (Ev.now _)))), Ev.bind hb (ev_pos rfl (Ev.bind ((i_fits hg c e).no y) (Ev.now _)))⟩
    · have hb : Ev (fun k => impl_bothCode.f k n l c e) 2 := by
        unfold impl_bothCode.f
        rw [hi]
        exact Ev.bind ((i_is n l).yes hg) (ev_pos rfl (ev_neg (by simpa using z) (Ev.now _)))
      exact ⟨false, 2, Ev.bind ((s_is n l).yes hg) (ev_pos rfl (ev_neg (by simpa using z) (Ev.now _))), Ev.bind hb (ev_neg (by decide) (Ev.now _))⟩
  · have hb : Ev (fun k => impl_bothCode.f k n l c e) 1 := by
      unfold impl_bothCode.f
      exact Ev.bind ((i_is n l).no hg) (ev_neg (by decide) (Ev.now _))
    exact ⟨false, 1, Ev.bind ((s_is n l).no hg) (ev_neg (by decide) (Ev.now _)), Ev.bind hb (ev_neg (by decide) (Ev.now _))⟩
theorem FnExactFitsBoth : ∀ (a0_0 : Int) (l0_1 : List Int) (a1 : Int) (a2 : Int), (Lit.int .i64 a0_0).wf = true → l0_1.length ≤ maxLen → (∀ x ∈ l0_1, (Lit.int .i64 x).wf = true) → (Lit.int .i64 a1).wf = true → (Lit.int .i64 a2).wf = true → ∃ k, laws_FnExactFitsBoth.f k a0_0 l0_1 a1 a2 = some true := by
  intro n l c e _ hl _ _ _
  refine Ev.rounds ?_
  unfold laws_FnExactFitsBoth.f
  rw [szG n l hl]
  simp only [Option.bind_some]
  by_cases hs : l.length ≤ 1048576
  · rw [if_pos hs]
    refine ev_neg (by omega) ?_
    obtain ⟨b, q, h1, h2⟩ := both n l c e
    refine Ev.bind (toG n l hs) (Ev.bind h1 (Ev.bind (toG n l hs) (Ev.bind h2 (ev_neg (by simp) ?_))))
    refine ev_k ?_
    simp only [laws_FnExactFitsBoth.j0]
    exact ev_neg (by simp) (Ev.bind (toG n l hs) (Ev.bind (eqG n l hs) (ev_pos rfl (Ev.now _))))
  · rw [if_neg hs]
    exact ev_pos (by decide) (Ev.now _)
end Go.Proofs.YtkmpkcofddpdgaaDoor.Pure
