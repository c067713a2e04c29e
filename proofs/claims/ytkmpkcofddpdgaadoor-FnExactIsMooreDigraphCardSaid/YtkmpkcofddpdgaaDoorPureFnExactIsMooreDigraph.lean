/- The pure law and what it leans on, in one text (wip/bin/bundle). -/
import Derived.Test.YtkmpkcofddpdgaaDoorP100
import Derived.Test.YtkmpkcofddpdgaaDoorP90
import Derived.Test.YtkmpkcofddpdgaaDoorP99
import Derived.Test.YtkmpkcofddpdgaaDoorP87
import Derived.Test.YtkmpkcofddpdgaaDoorP93
import Derived.Test.YtkmpkcofddpdgaaDoorP96
import Derived.Test.YtkmpkcofddpdgaaDoorP85
import Derived.Test.YtkmpkcofddpdgaaDoorP86
import Derived.Test.YtkmpkcofddpdgaaDoorP94
import Derived.Test.YtkmpkcofddpdgaaDoorP95
import Derived.Test.YtkmpkcofddpdgaaDoorWA
import Derived.Test.YtkmpkcofddpdgaaDoorWBMore
import Derived.Laws.BitsLemmas
import Derived.Test.YtkmpkcofddpdgaaDoorP84
import Derived.Test.YtkmpkcofddpdgaaDoorP91
import Derived.Test.YtkmpkcofddpdgaaDoorP2
import Derived.Test.YtkmpkcofddpdgaaDoorP64
import Derived.Test.YtkmpkcofddpdgaaDoorP78
import Derived.Test.YtkmpkcofddpdgaaDoorP79
import Derived.Test.YtkmpkcofddpdgaaDoorP57
import Derived.Test.YtkmpkcofddpdgaaDoorP88
import Derived.Test.YtkmpkcofddpdgaaDoorP97
import Derived.Test.YtkmpkcofddpdgaaDoorP43
import Derived.Test.YtkmpkcofddpdgaaDoorP19
import Derived.Test.YtkmpkcofddpdgaaDoorP15
import Derived.Test.YtkmpkcofddpdgaaDoorP16
import Derived.Lib.TrailingZeros
import Derived.Test.YtkmpkcofddpdgaaDoorP89
import Derived.Test.YtkmpkcofddpdgaaDoorP98
import Derived.Test.YtkmpkcofddpdgaaDoorP1
import Derived.Test.YtkmpkcofddpdgaaDoorP83
import Derived.Test.YtkmpkcofddpdgaaDoorP10
import Derived.Test.YtkmpkcofddpdgaaDoorP22
namespace Go.Proofs.YtkmpkcofddpdgaaDoor.Q
open Go Go.RowKit Go.Proofs.YtkmpkcofddpdgaaDoorW.PrintWords Go.Proofs.YtkmpkcofddpdgaaDoorW.PrintMore
theorem ev_k {α : Type} {g : Nat → Option α} {r : α} (h : Ev (fun k => g (k + 1)) r) : Ev g r := Ev.step (fun _ => rfl) h
theorem ev_some {α : Type} {r s : α} (h : r = s) : Ev (fun _ => some r) s := h ▸ Ev.now r
theorem ev_pos {α : Type} {c : Prop} [Decidable c] {f g : Nat → Option α} {r : α} (h : c) (H : Ev f r) : Ev (fun k => if c then f k else g k) r :=
  Ev.congr (fun _ => if_pos h) H
theorem ev_neg {α : Type} {c : Prop} [Decidable c] {f g : Nat → Option α} {r : α} (h : ¬ c) (H : Ev g r) : Ev (fun k => if c then f k else g k) r :=
  Ev.congr (fun _ => if_neg h) H
theorem ev_of {α : Type} {o : Option α} {r : α} (h : o = some r) : Ev (fun _ => o) r := ⟨0, fun _ _ => h⟩
theorem ev_bind0 {α β : Type} {o : Option α} {f : Nat → α → Option β} {a : α} {r : β} (h : o = some a) (H : Ev (fun n => f n a) r) : Ev (fun n => o.bind (f n)) r :=
  Ev.bind (ev_of h) H
theorem w64 {a : Int} (h0 : -9223372036854775808 ≤ a) (h1 : a < 9223372036854775808) : wrap64 a = a := by
  unfold wrap64
  omega
def Says (g : Nat → Option Bool) (P : Prop) : Prop := ∃ b : Bool, Ev g b ∧ (b = true ↔ P)
theorem says_iff {g : Nat → Option Bool} {P R : Prop} (h : P ↔ R) (H : Says g R) : Says g P := by
  obtain ⟨b, hb, e⟩ := H
  exact ⟨b, hb, e.trans h.symm⟩
theorem says_k {g : Nat → Option Bool} {P : Prop} (H : Says (fun k => g (k + 1)) P) : Says g P := by
  obtain ⟨b, hb, e⟩ := H
  exact ⟨b, ev_k hb, e⟩
theorem says_pos {c : Prop} [Decidable c] {f g : Nat → Option Bool} {P : Prop} (h : c) (H : Says f P) : Says (fun k => if c then f k else g k) P := by
  obtain ⟨b, hb, e⟩ := H
  exact ⟨b, ev_pos h hb, e⟩
theorem says_neg {c : Prop} [Decidable c] {f g : Nat → Option Bool} {P : Prop} (h : ¬ c) (H : Says g P) : Says (fun k => if c then f k else g k) P := by
  obtain ⟨b, hb, e⟩ := H
  exact ⟨b, ev_neg h hb, e⟩
theorem says_true {P : Prop} (h : P) : Says (fun _ => some true) P := ⟨true, Ev.now _, by simp [h]⟩
theorem says_false {P : Prop} (h : ¬ P) : Says (fun _ => some false) P := ⟨false, Ev.now _, by simp [h]⟩
theorem Says.yes {g : Nat → Option Bool} {P : Prop} (H : Says g P) (h : P) : Ev g true := by
  obtain ⟨b, hb, e⟩ := H
  rw [e.2 h] at hb
  exact hb
theorem Says.no {g : Nat → Option Bool} {P : Prop} (H : Says g P) (h : ¬ P) : Ev g false := by
  obtain ⟨b, hb, e⟩ := H
  cases b with
  | true => exact absurd (e.1 rfl) h
  | false => exact hb
end Go.Proofs.YtkmpkcofddpdgaaDoor.Q
namespace Go.Proofs.YtkmpkcofddpdgaaDoor.Q
open Go Go.RowKit Go.Proofs.YtkmpkcofddpdgaaDoorW.PrintWords Go.Proofs.YtkmpkcofddpdgaaDoorW.PrintLast Go.Proofs.YtkmpkcofddpdgaaDoorW.PrintMore
def tb (x i : Int) : Bool := decide (x / 2 ^ i.toNat % 2 = 1)
theorem wu64 {a : Int} (h0 : 0 ≤ a) (h1 : a < 18446744073709551616) : IntKind.u64.wrap a = a := by
  simp [IntKind.wrap, IntKind.bits, IntKind.signed]
  omega
theorem w64' (a : Int) : IntKind.i64.wrap a = wrap64 a := by
  rw [IntKind.wrap_i64]
  unfold wrap64
  rfl
theorem and_one (a : Int) : bits .and .i64 a 1 = a % 2 := by
  have e : (BitVec.ofInt 64 a &&& BitVec.ofInt 64 1).toNat = (a % 2).toNat := by
    rw [BitVec.toNat_and, show (BitVec.ofInt 64 1).toNat = 1 from rfl, Nat.and_one_is_mod, BitVec.toNat_ofInt]
    omega
  show IntKind.i64.wrap (((BitVec.ofInt 64 a &&& BitVec.ofInt 64 1).toNat : Nat) : Int) = a % 2
  rw [e, w64']
  rw [w64] <;> omega
theorem shr_at {x i : Int} (i0 : 0 ≤ i) (i1 : i ≤ 63) : shr .i64 x i = x / 2 ^ i.toNat := by
  unfold shr
  rw [Nat.min_eq_left (by simp [IntKind.bits]; omega)]
theorem bit_at {x i : Int} (i0 : 0 ≤ i) (i1 : i ≤ 63) : bits .and .i64 (shr .i64 x i) 1 = if tb x i then 1 else 0 := by
  rw [and_one, shr_at i0 i1]
  unfold tb
  have := Int.emod_two_eq (x / 2 ^ i.toNat)
  rcases this with h | h <;> simp [h]
theorem bit_is {x i : Int} (i0 : 0 ≤ i) (i1 : i ≤ 63) : (bits .and .i64 (shr .i64 x i) 1 == 1) = tb x i := by
  rw [bit_at i0 i1]
  cases tb x i <;> rfl
theorem two_pow_le {n : Int} (h0 : 0 ≤ n) (h1 : n ≤ 62) : (1 : Int) ≤ 2 ^ n.toNat ∧ (2 : Int) ^ n.toNat ≤ 4611686018427387904 := by
  have e : ((2 : Int) ^ n.toNat) = ((2 ^ n.toNat : Nat) : Int) := by simp
  have a : 2 ^ n.toNat ≤ 2 ^ 62 := Nat.pow_le_pow_right (by decide) (by omega)
  have b : 1 ≤ 2 ^ n.toNat := Nat.one_le_two_pow
  rw [e]
  omega
theorem shl_one {n : Int} (h0 : 0 ≤ n) (h1 : n ≤ 62) : shl .i64 1 n = 2 ^ n.toNat := by
  have := two_pow_le h0 h1
  unfold shl
  rw [Nat.min_eq_left (by simp [IntKind.bits]; omega), Int.one_mul, w64', w64] <;> omega
theorem tb_nat (x i : Nat) : tb (x : Int) (i : Int) = x.testBit i := by
  unfold tb
  rw [Nat.testBit_eq_decide_div_mod_eq]
  have : ((x : Int) / 2 ^ i) % 2 = ((x / 2 ^ i % 2 : Nat) : Int) := by simp
  rw [Int.toNat_natCast, this]
  exact decide_eq_decide.2 (by omega)
theorem tb_toNat {x i : Int} (h0 : 0 ≤ x) (i0 : 0 ≤ i) : tb x i = x.toNat.testBit i.toNat := by
  rw [← tb_nat, Int.toNat_of_nonneg h0, Int.toNat_of_nonneg i0]
theorem tb_high {x i n : Int} (h0 : 0 ≤ x) (h1 : x < 2 ^ n.toNat) (n0 : 0 ≤ n) (hi : n ≤ i) : tb x i = false := by
  rw [tb_toNat h0 (by omega)]
  refine Nat.testBit_lt_two_pow ?_
  have e : ((2 : Int) ^ n.toNat) = ((2 ^ n.toNat : Nat) : Int) := by simp
  rw [e] at h1
  have : x.toNat < 2 ^ n.toNat := by omega
  exact Nat.lt_of_lt_of_le this (Nat.pow_le_pow_right (by decide) (by omega))
theorem tb_ext {x y n : Int} (x0 : 0 ≤ x) (x1 : x < 2 ^ n.toNat) (y0 : 0 ≤ y) (y1 : y < 2 ^ n.toNat) (n0 : 0 ≤ n) (h : ∀ i, 0 ≤ i → i < n → tb x i = tb y i) : x = y := by
  have : x.toNat = y.toNat := by
    refine Nat.eq_of_testBit_eq fun i => ?_
    by_cases hi : (i : Int) < n
    · have := h i (by omega) hi
      rwa [tb_toNat x0 (by omega), tb_toNat y0 (by omega), Int.toNat_natCast] at this
    · have a := tb_high (i := i) x0 x1 n0 (by omega)
      have b := tb_high (i := i) y0 y1 n0 (by omega)
      rw [tb_toNat x0 (by omega), Int.toNat_natCast] at a
      rw [tb_toNat y0 (by omega), Int.toNat_natCast] at b
      rw [a, b]
  omega
theorem and_nat (a b : Nat) (ha : a < 2 ^ 63) (hb : b < 2 ^ 63) : bits .and .i64 a b = ((a &&& b : Nat) : Int) :=
  (bits_nat .i64 63 (by decide) (fun n h0 h1 => by rw [w64', w64] <;> omega) a b ha hb).1
theorem or_nat (a b : Nat) (ha : a < 2 ^ 63) (hb : b < 2 ^ 63) : bits .or .i64 a b = ((a ||| b : Nat) : Int) :=
  (bits_nat .i64 63 (by decide) (fun n h0 h1 => by rw [w64', w64] <;> omega) a b ha hb).2
theorem uand_nat (a b : Nat) (ha : a < 2 ^ 64) (hb : b < 2 ^ 64) : bits .and .u64 a b = ((a &&& b : Nat) : Int) :=
  (bits_nat .u64 64 (by decide) (fun n h0 h1 => wu64 h0 (by omega)) a b ha hb).1
set_option linter.unusedVariables false in
theorem andNot_nat (a b : Nat) (ha : a < 2 ^ 63) (hb : b < 2 ^ 63) : ∃ c : Nat, bits .andNot .i64 a b = (c : Int) ∧ c < 2 ^ 63 ∧ ∀ i, c.testBit i = (a.testBit i && !b.testBit i) := by
  refine ⟨(BitVec.ofInt 64 a &&& ~~~ BitVec.ofInt 64 b).toNat, ?_, ?_, ?_⟩
  · show IntKind.i64.wrap (((BitVec.ofInt 64 a &&& ~~~ BitVec.ofInt 64 b).toNat : Nat) : Int) = _
    have : (BitVec.ofInt 64 a &&& ~~~ BitVec.ofInt 64 b).toNat < 2 ^ 63 := by
      simp only [BitVec.ofInt_natCast, BitVec.toNat_and, BitVec.toNat_ofNat]
      have : (a % 2 ^ 64 &&& (~~~ BitVec.ofNat 64 b).toNat) ≤ a % 2 ^ 64 := Nat.and_le_left
      have : a % 2 ^ 64 = a := Nat.mod_eq_of_lt (by omega)
      omega
    rw [w64', w64] <;> omega
  · simp only [BitVec.ofInt_natCast, BitVec.toNat_and, BitVec.toNat_ofNat]
    have : (a % 2 ^ 64 &&& (~~~ BitVec.ofNat 64 b).toNat) ≤ a % 2 ^ 64 := Nat.and_le_left
    have : a % 2 ^ 64 = a := Nat.mod_eq_of_lt (by omega)
    omega
  · intro i
    simp only [BitVec.ofInt_natCast]
    rw [BitVec.testBit_toNat, BitVec.getLsbD_and, BitVec.getLsbD_not, BitVec.getLsbD_ofNat, BitVec.getLsbD_ofNat]
    by_cases hi : i < 64
    · simp [hi]
    · simp [hi]
      intro h
      have := Nat.testBit_lt_two_pow (Nat.lt_of_lt_of_le ha (Nat.pow_le_pow_right (by decide) (show 63 ≤ i by omega)))
      simp [this] at h
end Go.Proofs.YtkmpkcofddpdgaaDoor.Q
namespace Go.Proofs.YtkmpkcofddpdgaaDoor.Q
open Go Go.RowKit Go.Proofs.YtkmpkcofddpdgaaDoorW.PrintWords
def rows (n : Int) (l : List Int) : Prop := 1 ≤ n ∧ n ≤ 62 ∧ (l.length : Int) = n ∧ ∀ v, 0 ≤ v → v < n → 0 ≤ rd l v ∧ rd l v < 2 ^ n.toNat
theorem rows.nat {n : Int} {l : List Int} (h : rows n l) {v : Int} (h0 : 0 ≤ v) (h1 : v < n) : ∃ x : Nat, rd l v = (x : Int) ∧ x < 2 ^ n.toNat ∧ x < 2 ^ 62 := by
  obtain ⟨a, b, c, d⟩ := h
  obtain ⟨d0, d1⟩ := d v h0 h1
  have e : ((2 : Int) ^ n.toNat) = ((2 ^ n.toNat : Nat) : Int) := by simp
  have p : 2 ^ n.toNat ≤ 2 ^ 62 := Nat.pow_le_pow_right (by decide) (by omega)
  rw [e] at d1
  exact ⟨(rd l v).toNat, by omega, by omega, by omega⟩
end Go.Proofs.YtkmpkcofddpdgaaDoor.Q
namespace Go.Proofs.YtkmpkcofddpdgaaDoor.Q
open Go Go.RowKit Go.Proofs.YtkmpkcofddpdgaaDoorW.PrintWords Go.Proofs.YtkmpkcofddpdgaaDoorW.PrintMore
def Mx (n : Int) (l : List Int) (P : Int → Int → Prop) : Prop := (l.length : Int) = n ∧ ∀ v, 0 ≤ v → v < n → (0 ≤ rd l v ∧ rd l v < 2 ^ n.toNat) ∧ ∀ w, 0 ≤ w → w < n → (tb (rd l v) w = true ↔ P v w)
theorem Mx.imp {n : Int} {l : List Int} {P Q : Int → Int → Prop} (h : Mx n l P) (e : ∀ v w, 0 ≤ v → v < n → 0 ≤ w → w < n → (P v w ↔ Q v w)) : Mx n l Q :=
  ⟨h.1, fun v v0 v1 => ⟨(h.2 v v0 v1).1, fun w w0 w1 => ((h.2 v v0 v1).2 w w0 w1).trans (e v w v0 v1 w0 w1)⟩⟩
theorem rd_ext {a b : List Int} (hl : a.length = b.length) (h : ∀ v : Int, 0 ≤ v → v < a.length → rd a v = rd b v) : a = b := by
  refine List.ext_getElem hl fun i h1 h2 => ?_
  have := h i (by omega) (by omega)
  simpa [rd, List.getD_eq_getElem?_getD, h1, h2] using this
theorem Mx.eq {n : Int} {a b : List Int} {P : Int → Int → Prop} (ha : Mx n a P) (hb : Mx n b P) (n0 : 0 ≤ n) : a = b := by
  refine rd_ext (by have := ha.1; have := hb.1; omega) fun v v0 v1 => ?_
  have v1 : v < n := by have := ha.1; omega
  obtain ⟨⟨a0, a1⟩, a2⟩ := ha.2 v v0 v1
  obtain ⟨⟨b0, b1⟩, b2⟩ := hb.2 v v0 v1
  exact tb_ext a0 a1 b0 b1 n0 fun i i0 i1 => Bool.eq_iff_iff.2 ((a2 i i0 i1).trans (b2 i i0 i1).symm)
theorem Mx.zero (n : Int) (n0 : 0 ≤ n) : Mx n (List.replicate n.toNat 0) (fun _ _ => False) := by
  refine ⟨by simp; omega, fun v v0 v1 => ?_⟩
  have e : rd (List.replicate n.toNat 0) v = 0 := by
    have : v.toNat < n.toNat := by omega
    simp [rd, List.getD_eq_getElem?_getD, this]
  rw [e]
  have p : (0 : Int) < 2 ^ n.toNat := Int.pow_pos (by decide)
  refine ⟨⟨by omega, p⟩, fun w w0 w1 => ?_⟩
  simp [tb]
theorem Mx.rows {n : Int} {l : List Int} {P : Int → Int → Prop} (h : Mx n l P) (n1 : 1 ≤ n) (n2 : n ≤ 62) : rows n l := ⟨n1, n2, h.1, fun v v0 v1 => (h.2 v v0 v1).1⟩
theorem rd_set {l : List Int} {i j : Int} (x : Int) (i0 : 0 ≤ i) (i1 : i < l.length) (j0 : 0 ≤ j) : rd (l.set i.toNat x) j = if j = i then x else rd l j := by
  simp only [rd, List.getD_eq_getElem?_getD, List.getElem?_set]
  by_cases h : j = i
  · subst h
    rw [if_pos rfl, if_pos rfl, if_pos (by omega)]
    rfl
  · rw [if_neg h, if_neg (by omega)]
theorem or_one {n x j : Int} (n2 : n ≤ 62) (x0 : 0 ≤ x) (x1 : x < 2 ^ n.toNat) (j0 : 0 ≤ j) (j1 : j < n) : (0 ≤ bits .or .i64 x (shl .i64 1 j) ∧ bits .or .i64 x (shl .i64 1 j) < 2 ^ n.toNat) ∧ ∀ w, 0 ≤ w → (tb (bits .or .i64 x (shl .i64 1 j)) w = true ↔ tb x w = true ∨ w = j) := by
  have e : ((2 : Int) ^ n.toNat) = ((2 ^ n.toNat : Nat) : Int) := by simp
  have p : 2 ^ n.toNat ≤ 2 ^ 62 := Nat.pow_le_pow_right (by decide) (by omega)
  have q : 2 ^ j.toNat < 2 ^ n.toNat := Nat.pow_lt_pow_right (by decide) (by omega)
  rw [e] at x1 ⊢
  obtain ⟨y, rfl⟩ := Int.eq_ofNat_of_zero_le x0
  rw [shl_one j0 (by omega), show ((2 : Int) ^ j.toNat) = ((2 ^ j.toNat : Nat) : Int) by simp, or_nat y (2 ^ j.toNat) (by omega) (by omega)]
  refine ⟨⟨by omega, ?_⟩, fun w w0 => ?_⟩
  · have := Nat.or_lt_two_pow (show y < 2 ^ n.toNat by omega) q
    omega
  · obtain ⟨w, rfl⟩ := Int.eq_ofNat_of_zero_le w0
    rw [tb_nat, tb_nat, Nat.testBit_or, Nat.testBit_two_pow]
    simp only [Bool.or_eq_true, decide_eq_true_eq]
    refine or_congr Iff.rfl ?_
    omega
theorem Mx.or {n : Int} {l : List Int} {P : Int → Int → Prop} (h : Mx n l P) (n2 : n ≤ 62) {i j : Int} (i0 : 0 ≤ i) (i1 : i < n) (j0 : 0 ≤ j) (j1 : j < n) : Mx n (l.set i.toNat (bits .or .i64 (rd l i) (shl .i64 1 j))) (fun v w => P v w ∨ (v = i ∧ w = j)) := by
  refine ⟨by simpa using h.1, fun v v0 v1 => ?_⟩
  rw [rd_set _ i0 (by have := h.1; omega) v0]
  obtain ⟨⟨a0, a1⟩, a2⟩ := h.2 v v0 v1
  by_cases hv : v = i
  · rw [if_pos hv]
    subst hv
    obtain ⟨b, b2⟩ := or_one n2 a0 a1 j0 j1
    exact ⟨b, fun w w0 w1 => (b2 w w0).trans (or_congr (a2 w w0 w1) (by simp))⟩
  · rw [if_neg hv]
    exact ⟨⟨a0, a1⟩, fun w w0 w1 => (a2 w w0 w1).trans (by simp [hv])⟩
end Go.Proofs.YtkmpkcofddpdgaaDoor.Q
namespace Go.Proofs.YtkmpkcofddpdgaaDoor.Q
open Go Go.RowKit Go.Proofs.YtkmpkcofddpdgaaDoor.P
theorem s_in (a b c : Int) : spec_l01In.f a b c = some (decide (b ≤ a ∧ a ≤ c)) := by
  unfold spec_l01In.f
  split
  · exact congrArg some (decide_eq_decide.2 (by omega))
  · exact congrArg some (decide_eq_false (by omega)).symm
end Go.Proofs.YtkmpkcofddpdgaaDoor.Q
namespace Go.Proofs.YtkmpkcofddpdgaaDoor.Q
open Go Go.RowKit Go.Proofs.YtkmpkcofddpdgaaDoor.P Go.Proofs.YtkmpkcofddpdgaaDoorW.PrintWords Go.Proofs.YtkmpkcofddpdgaaDoorW.PrintMore
theorem rows_all {n : Int} {l : List Int} (hn : (l.length : Int) = n) (P : Int → Prop) : (∀ x ∈ l, P x) ↔ ∀ v, 0 ≤ v → v < n → P (rd l v) := by
  constructor
  · intro h v v0 v1
    have hv : v.toNat < l.length := by omega
    have : rd l v = l[v.toNat] := by simp [rd, List.getD_eq_getElem?_getD, List.getElem?_eq_getElem hv]
    rw [this]
    exact h _ (List.getElem_mem _)
  · intro h x hx
    obtain ⟨i, hi, rfl⟩ := List.getElem_of_mem hx
    have := h i (by omega) (by omega)
    have e : rd l (i : Int) = l[i] := by simp [rd, List.getD_eq_getElem?_getD, List.getElem?_eq_getElem hi]
    rwa [e] at this
theorem s_di (n : Int) (l : List Int) : Says (fun k => spec_l08Is.f k n l) (rows n l) := by
  have bad : ¬ rows n l → Says (fun k => spec_l08Is.j0 k true n l) (rows n l) := fun h => by
    refine says_k ?_
    simp only [spec_l08Is.j0]
    exact says_pos trivial (says_false h)
  unfold spec_l08Is.f
  rw [s_in]
  simp only [Option.bind_some]
  by_cases h1 : 1 ≤ n ∧ n ≤ 62
  · refine says_pos (decide_eq_true h1) ?_
    by_cases h2 : (l.length : Int) = n
    · refine says_k ?_
      simp only [spec_l08Is.j0]
      refine says_neg (by simp [h2]) ?_
      have hp := two_pow_le (n := n) (by omega) h1.2
      have loop : ∀ (d : Nat) (v : Int), 0 ≤ v → v ≤ n → n - v = d → Says (fun k => spec_l08Is.l0 k v n l) (∀ a, v ≤ a → a < n → 0 ≤ rd l a ∧ rd l a < 2 ^ n.toNat) := by
        intro d
        induction d with
        | zero =>
          intro v v0 v1 hd
          refine says_k ?_
          simp only [spec_l08Is.l0]
          exact says_neg (by omega) (says_true fun a _ _ => by omega)
        | succ d ih =>
          intro v v0 v1 hd
          refine says_k ?_
          simp only [spec_l08Is.l0]
          rw [wu64 (a := n) (by omega) (by omega), shl_one (by omega) h1.2, w64 (a := 2 ^ n.toNat - 1) (by omega) (by omega), s_in]
          simp only [Option.bind_some]
          refine says_pos (by omega) (says_pos v0 (says_pos (by omega) ?_))
          by_cases h : 0 ≤ rd l v ∧ rd l v ≤ 2 ^ n.toNat - 1
          · refine says_pos (decide_eq_true h) ?_
            rw [w64 (a := v + 1) (by omega) (by omega)]
            exact says_iff ⟨fun z a a0 a1 => z a (by omega) a1, fun z a a0 a1 => if ha : a = v then by subst ha; omega else z a (by omega) a1⟩ (ih (v + 1) (by omega) (by omega) (by omega))
          · exact says_neg (by simpa using h) (says_false fun z => h (by have := z v (by omega) (by omega); omega))
      exact says_iff ⟨fun z => z.2.2.2, fun z => ⟨h1.1, h1.2, h2, z⟩⟩ (loop n.toNat 0 (by omega) (by omega) (by omega))
    · rw [show ((l.length : Int) != n) = true by simpa using h2]
      exact bad fun z => h2 z.2.2.1
  · exact says_neg (by simpa using h1) (bad fun z => h1 ⟨z.1, z.2.1⟩)
theorem i_di (n : Int) (l : List Int) : ∃ b, impl_IsDigraph.f n l = some b ∧ (b = true ↔ rows n l) := by
  unfold impl_IsDigraph.f
  by_cases h1 : n < 1
  · exact ⟨false, if_pos h1, by simp; intro z; have := z.1; omega⟩
  · rw [if_neg h1]
    by_cases h2 : n > 62
    · exact ⟨false, if_pos h2, by simp; intro z; have := z.2.1; omega⟩
    · rw [if_neg h2]
      by_cases h3 : (l.length : Int) = n
      · rw [if_pos h3]
        have hp := two_pow_le (n := n) (by omega) (by omega)
        refine ⟨_, rfl, ?_⟩
        rw [w64 (a := 2 ^ n.toNat) (by omega) (by omega)]
        have : (!(l.any fun row => decide (row < 0) || decide (2 ^ n.toNat ≤ row))) = true ↔ ∀ x ∈ l, 0 ≤ x ∧ x < 2 ^ n.toNat := by
          simp only [Bool.not_eq_true', List.any_eq_false, Bool.or_eq_true, decide_eq_true_eq, not_or, Int.not_lt, Int.not_le]
        rw [this, rows_all h3]
        exact ⟨fun z => ⟨by omega, by omega, h3, z⟩, fun z => z.2.2.2⟩
      · exact ⟨false, if_neg h3, by simp; intro z; exact h3 z.2.2.1⟩
theorem i_di_yes {n : Int} {l : List Int} (h : rows n l) : impl_IsDigraph.f n l = some true := by
  obtain ⟨b, hb, e⟩ := i_di n l
  rw [hb, e.2 h]
theorem i_di_no {n : Int} {l : List Int} (h : ¬ rows n l) : impl_IsDigraph.f n l = some false := by
  obtain ⟨b, hb, e⟩ := i_di n l
  cases b with
  | true => exact absurd (e.1 rfl) h
  | false => exact hb
theorem d_has (n : Int) (l : List Int) (v w : Int) (v0 : 0 ≤ v) (v1 : v < l.length) (w0 : 0 ≤ w) (w1 : w ≤ 63) : spec_l08Has.f n l v w = some (tb (rd l v) w) := by
  unfold spec_l08Has.f
  rw [if_pos v0, if_pos v1, wu64 w0 (by omega), if_pos w0, bit_is w0 w1]
end Go.Proofs.YtkmpkcofddpdgaaDoor.Q
namespace Go.Proofs.YtkmpkcofddpdgaaDoor.Q
open Go Go.RowKit Go.Proofs.YtkmpkcofddpdgaaDoor.P Go.Proofs.YtkmpkcofddpdgaaDoorW.PrintWords Go.Proofs.YtkmpkcofddpdgaaDoorW.PrintMore
theorem i_directed (n : Int) (n0 : 0 ≤ n) (n2 : n ≤ 62) (is_ : Int → Int → Option Bool) (Q : Int → Int → Prop) (hq : ∀ v w, 0 ≤ v → v < n → 0 ≤ w → w < n → ∃ b, is_ v w = some b ∧ (b = true ↔ Q v w)) : ∃ r, Mx n r Q ∧ Ev (fun k => impl_directed.f is_ k n) (n, r) := by
  have outer : ∀ (d : Nat) (v : Int) (l : List Int), 0 ≤ v → v ≤ n → n - v = d → Mx n l (fun a b => a < v ∧ Q a b) → ∃ r, Mx n r Q ∧ Ev (fun k => impl_directed.l0 is_ k n n v n l) (n, r) := by
    intro d
    induction d with
    | zero =>
      intro v l v0 v1 hd hm
      refine ⟨l, hm.imp fun a b a0 a1 _ _ => ⟨fun z => z.2, fun z => ⟨by omega, z⟩⟩, ev_k ?_⟩
      simp only [impl_directed.l0]
      exact ev_neg (by omega) (Ev.now _)
    | succ d ih =>
      intro v l v0 v1 hd hm
      have inner : ∀ (e : Nat) (w : Int) (l : List Int), 0 ≤ w → w ≤ n → n - w = e → Mx n l (fun a b => (a < v ∨ (a = v ∧ b < w)) ∧ Q a b) → ∃ r, Mx n r Q ∧ Ev (fun k => impl_directed.l1 is_ k n v n v n w n l) (n, r) := by
        intro e
        induction e with
        | zero =>
          intro w l w0 w1 he hm
          obtain ⟨r, hr, hx⟩ := ih (v + 1) l (by omega) (by omega) (by omega) (hm.imp fun a b a0 a1 b0 b1 => and_congr ⟨fun _ => by omega, fun _ => by omega⟩ Iff.rfl)
          refine ⟨r, hr, ev_k ?_⟩
          simp only [impl_directed.l1]
          refine ev_neg (by omega) ?_
          rwa [w64 (a := v + 1) (by omega) (by omega)]
        | succ e ihe =>
          intro w l w0 w1 he hm
          obtain ⟨b, hb, hbq⟩ := hq v w v0 (by omega) w0 (by omega)
          cases b with
          | true =>
            obtain ⟨r, hr, hx⟩ := ihe (w + 1) _ (by omega) (by omega) (by omega) ((hm.or n2 v0 (by omega) w0 (by omega : w < n)).imp (Q := fun a b => (a < v ∨ (a = v ∧ b < w + 1)) ∧ Q a b) fun a b a0 a1 b0 b1 => by
              constructor
              · rintro (⟨h, q⟩ | ⟨rfl, rfl⟩)
                · exact ⟨by omega, q⟩
                · exact ⟨by omega, hbq.1 rfl⟩
              · rintro ⟨h, q⟩
                by_cases z : a = v ∧ b = w
                · exact .inr z
                · exact .inl ⟨by omega, q⟩)
            refine ⟨r, hr, ev_k ?_⟩
            simp only [impl_directed.l1, hb, Option.bind_some]
            refine ev_pos (by omega) (ev_pos trivial (ev_pos v0 (ev_pos (by have := hm.1; omega) (ev_pos w0 ?_))))
            rwa [w64 (a := w + 1) (by omega) (by omega)]
          | false =>
            have nq : ¬ Q v w := fun z => by have := hbq.2 z; cases this
            obtain ⟨r, hr, hx⟩ := ihe (w + 1) l (by omega) (by omega) (by omega) (hm.imp fun a b a0 a1 b0 b1 => by
              constructor
              · rintro ⟨h, q⟩
                exact ⟨by omega, q⟩
              · rintro ⟨h, q⟩
                by_cases z : a = v ∧ b = w
                · obtain ⟨rfl, rfl⟩ := z
                  exact absurd q nq
                · exact ⟨by omega, q⟩)
            refine ⟨r, hr, ev_k ?_⟩
            simp only [impl_directed.l1, hb, Option.bind_some]
            refine ev_pos (by omega) (ev_neg (by simp) ?_)
            rwa [w64 (a := w + 1) (by omega) (by omega)]
      obtain ⟨r, hr, hx⟩ := inner n.toNat 0 l (by omega) (by omega) (by omega) (hm.imp fun a b a0 a1 b0 b1 => and_congr (by omega) Iff.rfl)
      refine ⟨r, hr, ev_k ?_⟩
      simp only [impl_directed.l0]
      exact ev_pos (by omega) hx
  obtain ⟨r, hr, hx⟩ := outer n.toNat 0 _ (by omega) (by omega) (by omega) ((Mx.zero n n0).imp fun a b a0 a1 b0 b1 => ⟨False.elim, fun z => by omega⟩)
  refine ⟨r, hr, ?_⟩
  unfold impl_directed.f
  exact ev_pos n0 (ev_pos (by omega) hx)
theorem i_reversed {n : Int} {l : List Int} (h : rows n l) : ∃ r, Mx n r (fun v w => tb (rd l w) v = true) ∧ Ev (fun k => impl_Digraph_reversed.f k n l) (n, r) := by
  obtain ⟨r, hr, hx⟩ := i_directed n (by have := h.1; omega) h.2.1 (impl_Digraph_reversed.is l) (fun v w => tb (rd l w) v = true) fun v w v0 v1 w0 w1 => by
    refine ⟨_, ?_, Iff.rfl⟩
    unfold impl_Digraph_reversed.is
    rw [if_pos w0, if_pos (by have := h.2.2.1; omega), if_pos v0, bit_is v0 (by have := h.2.1; omega)]
  refine ⟨r, hr, ?_⟩
  unfold impl_Digraph_reversed.f
  exact Ev.bind hx (Ev.now _)
theorem s_reverse {n : Int} {l : List Int} (h : rows n l) : ∃ r, Mx n r (fun v w => tb (rd l w) v = true) ∧ Ev (fun k => spec_l08Reverse.f k n l) (n, r) := by
  have n1 := h.1
  have n2 := h.2.1
  have hl := h.2.2.1
  have outer : ∀ (d : Nat) (v : Int) (m : List Int), 0 ≤ v → v ≤ n → n - v = d → Mx n m (fun b a => a < v ∧ tb (rd l a) b = true) → ∃ r, Mx n r (fun b a => tb (rd l a) b = true) ∧ Ev (fun k => spec_l08Reverse.l0 k v n l n m) (n, r) := by
    intro d
    induction d with
    | zero =>
      intro v m v0 v1 hd hm
      refine ⟨m, hm.imp fun b a b0 b1 a0 a1 => ⟨fun z => z.2, fun z => ⟨by omega, z⟩⟩, ev_k ?_⟩
      simp only [spec_l08Reverse.l0]
      exact ev_neg (by omega) (Ev.now _)
    | succ d ih =>
      intro v m v0 v1 hd hm
      have inner : ∀ (e : Nat) (w : Int) (m : List Int), 0 ≤ w → w ≤ n → n - w = e → Mx n m (fun b a => (a < v ∨ (a = v ∧ b < w)) ∧ tb (rd l a) b = true) → ∃ r, Mx n r (fun b a => tb (rd l a) b = true) ∧ Ev (fun k => spec_l08Reverse.l1 k v w n l n m) (n, r) := by
        intro e
        induction e with
        | zero =>
          intro w m w0 w1 he hm
          obtain ⟨r, hr, hx⟩ := ih (v + 1) m (by omega) (by omega) (by omega) (hm.imp fun b a b0 b1 a0 a1 => and_congr ⟨fun _ => by omega, fun _ => by omega⟩ Iff.rfl)
          refine ⟨r, hr, ev_k ?_⟩
          simp only [spec_l08Reverse.l1]
          refine ev_neg (by omega) ?_
          rwa [w64 (a := v + 1) (by omega) (by omega)]
        | succ e ihe =>
          intro w m w0 w1 he hm
          have hh := d_has n l v w v0 (by omega) w0 (by omega)
          by_cases hb : tb (rd l v) w = true
          · obtain ⟨r, hr, hx⟩ := ihe (w + 1) _ (by omega) (by omega) (by omega) ((hm.or n2 w0 (by omega : w < n) v0 (by omega)).imp (Q := fun b a => (a < v ∨ (a = v ∧ b < w + 1)) ∧ tb (rd l a) b = true) fun b a b0 b1 a0 a1 => by
              constructor
              · rintro (⟨h, q⟩ | ⟨rfl, rfl⟩)
                · exact ⟨by omega, q⟩
                · exact ⟨by omega, hb⟩
              · rintro ⟨h, q⟩
                by_cases z : b = w ∧ a = v
                · exact .inr z
                · exact .inl ⟨by omega, q⟩)
            refine ⟨r, hr, ev_k ?_⟩
            simp only [spec_l08Reverse.l1, hh, Option.bind_some]
            rw [wu64 v0 (by omega), w64 (a := w + 1) (by omega) (by omega)]
            exact ev_pos (by omega) (ev_pos hb (ev_pos w0 (ev_pos (by have := hm.1; omega) (ev_pos v0 hx))))
          · obtain ⟨r, hr, hx⟩ := ihe (w + 1) m (by omega) (by omega) (by omega) (hm.imp fun b a b0 b1 a0 a1 => by
              constructor
              · rintro ⟨h, q⟩
                exact ⟨by omega, q⟩
              · rintro ⟨h, q⟩
                by_cases z : a = v ∧ b = w
                · obtain ⟨rfl, rfl⟩ := z
                  exact absurd q hb
                · exact ⟨by omega, q⟩)
            refine ⟨r, hr, ev_k ?_⟩
            simp only [spec_l08Reverse.l1, hh, Option.bind_some]
            rw [w64 (a := w + 1) (by omega) (by omega)]
            exact ev_pos (by omega) (ev_neg hb hx)
      obtain ⟨r, hr, hx⟩ := inner n.toNat 0 m (by omega) (by omega) (by omega) (hm.imp fun b a b0 b1 a0 a1 => and_congr (by omega) Iff.rfl)
      refine ⟨r, hr, ev_k ?_⟩
      simp only [spec_l08Reverse.l0]
      exact ev_pos (by omega) hx
  obtain ⟨r, hr, hx⟩ := outer n.toNat 0 _ (by omega) (by omega) (by omega) ((Mx.zero n (by omega)).imp fun a b a0 a1 b0 b1 => ⟨False.elim, fun z => by omega⟩)
  refine ⟨r, hr, ?_⟩
  unfold spec_l08Reverse.f
  exact ev_pos (by omega) (ev_pos (by omega) hx)
end Go.Proofs.YtkmpkcofddpdgaaDoor.Q
namespace Go.Proofs.YtkmpkcofddpdgaaDoor.Q
open Go Go.RowKit
def pc : Nat → Nat → Nat
  | 0, _ => 0
  | n + 1, x => x % 2 + pc n (x / 2)
theorem pc_le (n : Nat) : ∀ x, pc n x ≤ n := by
  induction n with
  | zero => intro x; simp [pc]
  | succ n ih => intro x; simp only [pc]; have := ih (x / 2); omega
theorem pc_add (a : Nat) : ∀ b x, pc (a + b) x = pc a x + pc b (x / 2 ^ a) := by
  induction a with
  | zero => intro b x; simp [pc]
  | succ a ih =>
    intro b x
    rw [show a + 1 + b = (a + b) + 1 by omega]
    simp only [pc]
    rw [ih, Nat.div_div_eq_div_mul, Nat.pow_succ', Nat.add_assoc]
theorem pc_zero (n : Nat) : pc n 0 = 0 := by
  induction n with
  | zero => rfl
  | succ n ih => simp [pc, ih]
theorem pc_big {m n x : Nat} (h : x < 2 ^ m) (hn : m ≤ n) : pc n x = pc m x := by
  obtain ⟨b, rfl⟩ : ∃ b, n = m + b := ⟨n - m, by omega⟩
  rw [pc_add, Nat.div_eq_of_lt h, pc_zero]
  rfl
def rep (B d : Nat) : Nat → Nat
  | 0 => 0
  | n + 1 => rep B d n * B + d
theorem and_rep (w d n x : Nat) (hd : d < 2 ^ w) : x &&& rep (2 ^ w) d (n + 1) = (x / 2 ^ w &&& rep (2 ^ w) d n) * 2 ^ w + (x % 2 ^ w &&& d) := by
  have h1 : (x &&& rep (2 ^ w) d (n + 1)) / 2 ^ w = x / 2 ^ w &&& rep (2 ^ w) d n := by
    rw [Nat.and_div_two_pow]
    congr 1
    simp only [rep]
    rw [Nat.mul_comm, Nat.mul_add_div (Nat.two_pow_pos w), Nat.div_eq_of_lt hd]
    rfl
  have h2 : (x &&& rep (2 ^ w) d (n + 1)) % 2 ^ w = x % 2 ^ w &&& d := by
    rw [Nat.and_mod_two_pow]
    congr 1
    simp only [rep]
    rw [Nat.mul_comm, Nat.mul_add_mod, Nat.mod_eq_of_lt hd]
  have := Nat.div_add_mod (x &&& rep (2 ^ w) d (n + 1)) (2 ^ w)
  rw [h1, h2, Nat.mul_comm] at this
  exact this.symm
def sA (n x : Nat) : Nat := (x / 2 &&& rep 4 1 n) + (x &&& rep 4 1 n)
theorem sA_succ (n x : Nat) : sA (n + 1) x = sA n (x / 4) * 4 + pc 2 x := by
  have a := and_rep 2 1 n (x / 2) (by decide)
  have b := and_rep 2 1 n x (by decide)
  simp only [show (2 : Nat) ^ 2 = 4 from rfl, Nat.and_one_is_mod] at a b
  unfold sA
  rw [a, b, show x / 2 / 4 = x / 8 by omega, show x / 4 / 2 = x / 8 by omega]
  simp only [pc]
  omega
theorem sA_lt (n : Nat) : ∀ x, sA n x < 4 ^ n ∨ n = 0 ∧ sA n x = 0 := by
  induction n with
  | zero => intro x; right; exact ⟨rfl, by simp [sA, rep]⟩
  | succ n ih =>
    intro x
    left
    have := pc_le 2 x
    rw [sA_succ, Nat.pow_succ]
    rcases ih (x / 4) with h | ⟨rfl, h⟩
    · omega
    · rw [h]; omega
theorem digs (q a b : Nat) (ha : a ≤ 2) (hb : b ≤ 2) : (q * 16 + b * 4 + a) / 4 / 16 = q / 4 ∧ (q * 16 + b * 4 + a) / 16 = q ∧ (q * 16 + b * 4 + a) / 4 % 16 % 4 = b ∧ (q * 16 + b * 4 + a) % 16 % 4 = a := by
  have e : (q * 16 + b * 4 + a) / 4 = q * 4 + b := by omega
  rw [e, Nat.mod_mod_of_dvd _ (by decide : 4 ∣ 16), Nat.mod_mod_of_dvd _ (by decide : 4 ∣ 16)]
  omega
theorem digs2 (q a b : Nat) (ha : a ≤ 4) (hb : b ≤ 4) (hq : q % 16 ≤ 4) : ((q * 256 + b * 16 + a) / 16 + (q * 256 + b * 16 + a)) / 256 = q / 16 + q ∧ ((q * 256 + b * 16 + a) / 16 + (q * 256 + b * 16 + a)) % 256 % 16 = a + b := by
  have e : (q * 256 + b * 16 + a) / 16 = q * 16 + b := by omega
  rw [e, Nat.mod_mod_of_dvd _ (by decide : 16 ∣ 256)]
  omega
def sB (n x : Nat) : Nat := (sA (2 * n) x / 4 &&& rep 16 3 n) + (sA (2 * n) x &&& rep 16 3 n)
theorem sB_succ (n x : Nat) : sB (n + 1) x = sB n (x / 16) * 16 + pc 4 x := by
  have e : sA (2 * (n + 1)) x = sA (2 * n) (x / 16) * 16 + pc 2 (x / 4) * 4 + pc 2 x := by
    rw [show 2 * (n + 1) = (2 * n + 1) + 1 by omega, sA_succ, sA_succ, show x / 4 / 4 = x / 16 by omega]
    omega
  have p1 := pc_le 2 x
  have p2 := pc_le 2 (x / 4)
  have p4 : pc 4 x = pc 2 x + pc 2 (x / 4) := pc_add 2 2 x
  have a := and_rep 4 3 n (sA (2 * (n + 1)) x / 4) (by decide)
  have b := and_rep 4 3 n (sA (2 * (n + 1)) x) (by decide)
  have m3 : ∀ y : Nat, y &&& 3 = y % 4 := fun y => by simpa using Nat.and_two_pow_sub_one_eq_mod y 2
  simp only [show (2 : Nat) ^ 4 = 16 from rfl, m3] at a b
  unfold sB
  rw [a, b]
  obtain ⟨e1, e2, e3, e4⟩ := digs (sA (2 * n) (x / 16)) _ _ p1 p2
  rw [e, e1, e2, e3, e4, p4]
  omega
theorem sB_zero (x : Nat) : sB 0 x = 0 := by simp [sB, rep]
theorem sB_lt (n : Nat) : ∀ x, sB n x < 16 ^ n ∧ sB n x % 16 ≤ 4 := by
  induction n with
  | zero => intro x; rw [sB_zero]; omega
  | succ n ih =>
    intro x
    have := pc_le 4 x
    have := (ih (x / 16)).1
    rw [sB_succ, Nat.pow_succ]
    omega
def sC (n x : Nat) : Nat := sB (2 * n) x / 16 + sB (2 * n) x &&& rep 256 15 n
theorem sC_succ (n x : Nat) : sC (n + 1) x = sC n (x / 256) * 256 + pc 8 x := by
  have e : sB (2 * (n + 1)) x = sB (2 * n) (x / 256) * 256 + pc 4 (x / 16) * 16 + pc 4 x := by
    rw [show 2 * (n + 1) = (2 * n + 1) + 1 by omega, sB_succ, sB_succ, show x / 16 / 16 = x / 256 by omega]
    omega
  have p1 := pc_le 4 x
  have p2 := pc_le 4 (x / 16)
  have p8 : pc 8 x = pc 4 x + pc 4 (x / 16) := pc_add 4 4 x
  have q := (sB_lt (2 * n) (x / 256)).2
  have a := and_rep 8 15 n (sB (2 * (n + 1)) x / 16 + sB (2 * (n + 1)) x) (by decide)
  have m15 : ∀ y : Nat, y &&& 15 = y % 16 := fun y => by simpa using Nat.and_two_pow_sub_one_eq_mod y 4
  simp only [show (2 : Nat) ^ 8 = 256 from rfl, m15] at a
  unfold sC
  rw [a]
  obtain ⟨e1, e2⟩ := digs2 (sB (2 * n) (x / 256)) _ _ p1 p2 q
  rw [e, e1, e2, p8]
theorem sC_eight (x : Nat) : sC 8 x = pc 8 x + 256 * pc 8 (x / 256) + 65536 * pc 8 (x / 65536) + 16777216 * pc 8 (x / 16777216) + 4294967296 * pc 8 (x / 4294967296) + 1099511627776 * pc 8 (x / 1099511627776) + 281474976710656 * pc 8 (x / 281474976710656) + 72057594037927936 * pc 8 (x / 72057594037927936) := by
  have z : ∀ y, sC 0 y = 0 := fun y => by simp [sC, rep]
  have s : ∀ n y q, sC (n + 1) (y / q) = sC n (y / (q * 256)) * 256 + pc 8 (y / q) := fun n y q => by rw [sC_succ, Nat.div_div_eq_div_mul]
  rw [show (8 : Nat) = 7 + 1 from rfl, sC_succ 7 x, s 6 x, s 5 x, s 4 x, s 3 x, s 2 x, s 1 x, s 0 x, z]
  simp only [Nat.reduceMul, Nat.reduceAdd]
  omega
theorem pc_eight (x : Nat) : pc 64 x = pc 8 x + pc 8 (x / 256) + pc 8 (x / 65536) + pc 8 (x / 16777216) + pc 8 (x / 4294967296) + pc 8 (x / 1099511627776) + pc 8 (x / 281474976710656) + pc 8 (x / 72057594037927936) := by
  have h : ∀ n y, pc (8 + n) y = pc 8 y + pc n (y / 256) := fun n y => pc_add 8 n y
  rw [show 64 = 8 + (8 + (8 + (8 + (8 + (8 + (8 + 8)))))) from rfl]
  simp only [h, Nat.div_div_eq_div_mul, Nat.reduceMul]
  omega
set_option maxHeartbeats 1000000 in
theorem swar (x : Nat) : ((sC 8 x + sC 8 x / 256) + (sC 8 x + sC 8 x / 256) / 65536 + ((sC 8 x + sC 8 x / 256) + (sC 8 x + sC 8 x / 256) / 65536) / 4294967296) % 128 = pc 64 x := by
  rw [sC_eight, pc_eight]
  have a0 := pc_le 8 x
  have a1 := pc_le 8 (x / 256)
  have a2 := pc_le 8 (x / 65536)
  have a3 := pc_le 8 (x / 16777216)
  have a4 := pc_le 8 (x / 4294967296)
  have a5 := pc_le 8 (x / 1099511627776)
  have a6 := pc_le 8 (x / 281474976710656)
  have a7 := pc_le 8 (x / 72057594037927936)
  generalize pc 8 x = d0 at *
  generalize pc 8 (x / 256) = d1 at *
  generalize pc 8 (x / 65536) = d2 at *
  generalize pc 8 (x / 16777216) = d3 at *
  generalize pc 8 (x / 4294967296) = d4 at *
  generalize pc 8 (x / 1099511627776) = d5 at *
  generalize pc 8 (x / 281474976710656) = d6 at *
  generalize pc 8 (x / 72057594037927936) = d7 at *
  have e1 : (d0 + 256 * d1 + 65536 * d2 + 16777216 * d3 + 4294967296 * d4 + 1099511627776 * d5 + 281474976710656 * d6 + 72057594037927936 * d7) / 256 = d1 + 256 * d2 + 65536 * d3 + 16777216 * d4 + 4294967296 * d5 + 1099511627776 * d6 + 281474976710656 * d7 := by omega
  rw [e1]
  have e2 : (d0 + 256 * d1 + 65536 * d2 + 16777216 * d3 + 4294967296 * d4 + 1099511627776 * d5 + 281474976710656 * d6 + 72057594037927936 * d7 + (d1 + 256 * d2 + 65536 * d3 + 16777216 * d4 + 4294967296 * d5 + 1099511627776 * d6 + 281474976710656 * d7)) / 65536 = (d2 + d3) + 256 * (d3 + d4) + 65536 * (d4 + d5) + 16777216 * (d5 + d6) + 4294967296 * (d6 + d7) + 1099511627776 * d7 := by omega
  rw [e2]
  have e3 : (d0 + 256 * d1 + 65536 * d2 + 16777216 * d3 + 4294967296 * d4 + 1099511627776 * d5 + 281474976710656 * d6 + 72057594037927936 * d7 + (d1 + 256 * d2 + 65536 * d3 + 16777216 * d4 + 4294967296 * d5 + 1099511627776 * d6 + 281474976710656 * d7) + ((d2 + d3) + 256 * (d3 + d4) + 65536 * (d4 + d5) + 16777216 * (d5 + d6) + 4294967296 * (d6 + d7) + 1099511627776 * d7)) / 4294967296 = (d4 + d5 + d6 + d7) + 256 * (d5 + d6 + d7) + 65536 * (d6 + d7) + 16777216 * d7 := by omega
  rw [e3]
  omega
theorem sC_bound (x : Nat) : sC 8 x < 720575940379279360 := by
  rw [sC_eight]
  have a0 := pc_le 8 x
  have a1 := pc_le 8 (x / 256)
  have a2 := pc_le 8 (x / 65536)
  have a3 := pc_le 8 (x / 16777216)
  have a4 := pc_le 8 (x / 4294967296)
  have a5 := pc_le 8 (x / 1099511627776)
  have a6 := pc_le 8 (x / 281474976710656)
  have a7 := pc_le 8 (x / 72057594037927936)
  omega
theorem mA (x : Nat) (hx : x < 2 ^ 64) : IntKind.u64.wrap (bits .and .u64 ((x : Int) / 2) 6148914691236517205 + bits .and .u64 (x : Int) 6148914691236517205) = ((sA 32 x : Nat) : Int) ∧ sA 32 x < 2 ^ 64 := by
  have hb : sA 32 x < 2 ^ 64 := by rcases sA_lt 32 x with h | ⟨h, _⟩ <;> omega
  refine ⟨?_, hb⟩
  have e : rep 4 1 32 = 6148914691236517205 := by decide
  rw [show ((x : Int) / 2) = ((x / 2 : Nat) : Int) by omega, show (6148914691236517205 : Int) = ((6148914691236517205 : Nat) : Int) from rfl, uand_nat _ _ (by omega) (by decide), uand_nat _ _ hx (by decide)]
  rw [← e]
  rw [← Int.natCast_add]
  exact wu64 (by omega) (by unfold sA at hb; omega)
theorem mB (x : Nat) (hx : x < 2 ^ 64) : IntKind.u64.wrap (bits .and .u64 ((sA 32 x : Nat) / 4) 3689348814741910323 + bits .and .u64 (sA 32 x : Nat) 3689348814741910323) = ((sB 16 x : Nat) : Int) ∧ sB 16 x < 2 ^ 64 := by
  have ha := (mA x hx).2
  have hb : sB 16 x < 2 ^ 64 := (sB_lt 16 x).1
  refine ⟨?_, hb⟩
  have e : rep 16 3 16 = 3689348814741910323 := by decide
  rw [show (((sA 32 x : Nat) : Int) / 4) = ((sA 32 x / 4 : Nat) : Int) by omega, show (3689348814741910323 : Int) = ((3689348814741910323 : Nat) : Int) from rfl, uand_nat _ _ (by omega) (by decide), uand_nat _ _ ha (by decide)]
  rw [← e]
  rw [← Int.natCast_add]
  exact wu64 (by omega) (by unfold sB at hb; simp only [show 2 * 16 = 32 from rfl] at hb; omega)
theorem sB_half (x : Nat) : sB 16 x / 16 + sB 16 x < 2 ^ 64 := by
  have h := sB_succ 15 x
  have h1 := (sB_lt 15 (x / 16)).1
  have h2 := (sB_lt 15 (x / 16)).2
  have h3 := sB_succ 14 (x / 16)
  have e : sB 16 x < 6 * 16 ^ 15 := by
    have k : ∀ n y, sB n y * 15 + 4 ≤ 4 * 16 ^ n := by
      intro n
      induction n with
      | zero => intro y; rw [sB_zero]; omega
      | succ n ih =>
        intro y
        have := ih (y / 16)
        have := pc_le 4 y
        have p := Nat.one_le_two_pow (n := 4 * n)
        rw [sB_succ, Nat.pow_succ]
        have : 1 ≤ 16 ^ n := Nat.one_le_pow _ _ (by decide)
        omega
    have := k 16 x
    omega
  omega
theorem mC (x : Nat) : bits .and .u64 (IntKind.u64.wrap (((sB 16 x : Nat) : Int) / 16 + (sB 16 x : Nat))) 1085102592571150095 = ((sC 8 x : Nat) : Int) := by
  have hb := sB_half x
  have e : rep 256 15 8 = 1085102592571150095 := by decide
  rw [show (((sB 16 x : Nat) : Int) / 16 + (sB 16 x : Nat)) = ((sB 16 x / 16 + sB 16 x : Nat) : Int) by omega, wu64 (by omega) (by omega), show (1085102592571150095 : Int) = ((1085102592571150095 : Nat) : Int) from rfl, uand_nat _ _ hb (by decide)]
  rw [← e]
  rfl
end Go.Proofs.YtkmpkcofddpdgaaDoor.Q
namespace Go.Proofs.YtkmpkcofddpdgaaDoor.Q
open Go Go.RowKit Go.Proofs.YtkmpkcofddpdgaaDoor.P Go.Proofs.YtkmpkcofddpdgaaDoorW.PrintWords Go.Proofs.YtkmpkcofddpdgaaDoorW.PrintMore
set_option linter.unusedVariables false
section
variable {n : Int} {l : List Int} (n1 : 1 ≤ n) (n2 : n ≤ 62) (hn : (l.length : Int) = n)
include n1 n2 hn
end
end Go.Proofs.YtkmpkcofddpdgaaDoor.Q
namespace Go.Proofs.YtkmpkcofddpdgaaDoor.Q
open Go Go.RowKit Go.Proofs.YtkmpkcofddpdgaaDoor.P Go.Proofs.YtkmpkcofddpdgaaDoorW.PrintWords Go.Proofs.YtkmpkcofddpdgaaDoorW.PrintMore
theorem s_bits_l0 (n : Nat) : ∀ (x : Nat) (acc : Int), x < 2 ^ n → n ≤ 63 → 0 ≤ acc → acc + n < 4611686018427387904 → Ev (fun k => spec_l01Bits.l0 k (x : Int) acc) (acc + pc n x) := by
  induction n with
  | zero =>
    intro x acc hx _ _ _
    refine ev_k ?_
    simp only [spec_l01Bits.l0]
    exact ev_neg (by omega) (ev_some (by simp [pc]))
  | succ n ih =>
    intro x acc hx hn h0 h1
    refine ev_k ?_
    simp only [spec_l01Bits.l0]
    have e1 : Int.tdiv (x : Int) 2 = ((x / 2 : Nat) : Int) := by rw [Int.tdiv_eq_ediv_of_nonneg (by omega)]; omega
    have e2 : Int.tmod (x : Int) 2 = ((x % 2 : Nat) : Int) := by rw [Int.tmod_eq_emod_of_nonneg (by omega)]; omega
    have p : (2 : Nat) ^ n ≤ 2 ^ 62 := Nat.pow_le_pow_right (by decide) (by omega)
    rw [Nat.pow_succ] at hx
    by_cases h : (x : Int) > 0
    · refine ev_pos h ?_
      rw [e1, e2, w64 (a := ((x / 2 : Nat) : Int)) (by omega) (by omega), w64 (a := acc + ((x % 2 : Nat) : Int)) (by omega) (by omega)]
      have := ih (x / 2) (acc + ((x % 2 : Nat) : Int)) (by omega) (by omega) (by omega) (by omega)
      simp only [pc]
      rwa [show acc + (((x % 2 + pc n (x / 2) : Nat)) : Int) = acc + ((x % 2 : Nat) : Int) + (pc n (x / 2) : Nat) by omega]
    · refine ev_neg h (ev_some ?_)
      obtain rfl : x = 0 := by omega
      rw [pc_zero]
      simp
theorem s_bits (x : Nat) (hx : x < 2 ^ 62) : Ev (fun k => spec_l01Bits.f k (x : Int)) (pc 64 x : Nat) := by
  unfold spec_l01Bits.f
  have := s_bits_l0 62 x 0 hx (by omega) (by omega) (by omega)
  rw [pc_big hx (by omega : 62 ≤ 64)]
  rwa [Int.zero_add] at this
theorem i_size (x : Nat) (hx : x < 2 ^ 62) : impl_size.f (x : Int) = some ((pc 64 x : Nat) : Int) := by
  unfold impl_size.f bits_OnesCount64.f
  rw [wu64 (a := (x : Int)) (by omega) (by omega)]
  rw [(mA x (by omega)).1, (mB x (by omega)).1, mC]
  have b := sC_bound x
  have s := swar x
  have p := pc_le 64 x
  have e1 : ((sC 8 x : Nat) : Int) + ((sC 8 x : Nat) : Int) / 256 = ((sC 8 x + sC 8 x / 256 : Nat) : Int) := by omega
  rw [e1, wu64 (a := ((sC 8 x + sC 8 x / 256 : Nat) : Int)) (by omega) (by omega)]
  generalize sC 8 x + sC 8 x / 256 = y at *
  have e2 : ((y : Nat) : Int) + ((y : Nat) : Int) / 65536 = ((y + y / 65536 : Nat) : Int) := by omega
  rw [e2, wu64 (a := ((y + y / 65536 : Nat) : Int)) (by omega) (by omega)]
  generalize y + y / 65536 = z at *
  have e3 : ((z : Nat) : Int) + ((z : Nat) : Int) / 4294967296 = ((z + z / 4294967296 : Nat) : Int) := by omega
  rw [e3, wu64 (a := ((z + z / 4294967296 : Nat) : Int)) (by omega) (by omega), w64 (by omega) (by omega)]
  generalize z + z / 4294967296 = t at *
  have e4 : bits .and .i64 ((t : Nat) : Int) 127 = ((t % 128 : Nat) : Int) := by
    have := and_nat t 127 (by omega) (by decide)
    rw [show ((127 : Nat) : Int) = 127 from rfl] at this
    rw [this]
    have := Nat.and_two_pow_sub_one_eq_mod t 7
    simpa using congrArg (fun n : Nat => (n : Int)) this
  rw [e4, s]
  rfl
def deg (l : List Int) (v : Int) : Int := (pc 64 (rd l v).toNat : Nat)
theorem deg_range (l : List Int) (v : Int) : 0 ≤ deg l v ∧ deg l v ≤ 64 := by
  have := pc_le 64 (rd l v).toNat
  unfold deg
  omega
end Go.Proofs.YtkmpkcofddpdgaaDoor.Q
namespace Go.Proofs.YtkmpkcofddpdgaaDoor.Q
open Go Go.RowKit Go.Proofs.YtkmpkcofddpdgaaDoor.P Go.Proofs.YtkmpkcofddpdgaaDoorW.PrintWords Go.Proofs.YtkmpkcofddpdgaaDoorW.PrintMore
def regD (n : Int) (l r : List Int) : Prop := ∀ v, 0 ≤ v → v < n → deg l v = deg l 0 ∧ deg r v = deg l 0
theorem deg_s {n : Int} {l : List Int} (h : rows n l) {v : Int} (v0 : 0 ≤ v) (v1 : v < n) : Ev (fun k => spec_l01Bits.f k (rd l v)) (deg l v) := by
  obtain ⟨x, e, _, hx⟩ := h.nat v0 v1
  unfold deg
  rw [e, Int.toNat_natCast]
  exact s_bits x hx
theorem deg_i {n : Int} {l : List Int} (h : rows n l) {v : Int} (v0 : 0 ≤ v) (v1 : v < n) : impl_size.f (rd l v) = some (deg l v) := by
  obtain ⟨x, e, _, hx⟩ := h.nat v0 v1
  unfold deg
  rw [e, Int.toNat_natCast]
  exact i_size x hx
theorem degreesD {n : Int} {l : List Int} (h : rows n l) : ∃ g, g ≤ 64 ∧ Ev (fun k => spec_l08Degree.f k n l) g ∧ Ev (fun k => impl_Digraph_degree.f k n l) g := by
  have n1 := h.1
  have n2 := h.2.1
  have hl := h.2.2.1
  obtain ⟨r, hr, hs⟩ := s_reverse h
  obtain ⟨r', hr', hi⟩ := i_reversed h
  obtain rfl := hr.eq hr' (by omega)
  have hrr := hr.rows n1 n2
  have hrl := hr.1
  have d0 := deg_range l 0
  have sl : ∀ (d : Nat) (v : Int), 0 ≤ v → v ≤ n → n - v = d → (∀ w, 0 ≤ w → w < v → deg l w = deg l 0 ∧ deg r w = deg l 0) → ∃ g, ((regD n l r ∧ g = deg l 0) ∨ (¬ regD n l r ∧ g = -1)) ∧ Ev (fun k => spec_l08Degree.l0 k (deg l 0) v n l n r) g := by
    intro d
    induction d with
    | zero =>
      intro v v0 v1 hd hb
      refine ⟨deg l 0, .inl ⟨fun w w0 w1 => hb w w0 (by omega), rfl⟩, ev_k ?_⟩
      simp only [spec_l08Degree.l0]
      exact ev_neg (by omega) (Ev.now _)
    | succ d ih =>
      intro v v0 v1 hd hb
      by_cases z1 : deg l v = deg l 0
      · by_cases z2 : deg r v = deg l 0
        · obtain ⟨g, hg, hE⟩ := ih (v + 1) (by omega) (by omega) (by omega) (fun w w0 w1 => by
            by_cases y : w = v
            · rw [y]; exact ⟨z1, z2⟩
            · exact hb w w0 (by omega))
          refine ⟨g, hg, ev_k ?_⟩
          simp only [spec_l08Degree.l0]
          rw [w64 (a := v + 1) (by omega) (by omega)]
          exact ev_pos (by omega) (ev_pos v0 (Ev.bind (deg_s h v0 (by omega)) (ev_pos z1 (ev_pos (by omega) (Ev.bind (deg_s hrr v0 (by omega)) (ev_pos z2 hE))))))
        · refine ⟨-1, .inr ⟨fun y => z2 (y v v0 (by omega)).2, rfl⟩, ev_k ?_⟩
          simp only [spec_l08Degree.l0]
          exact ev_pos (by omega) (ev_pos v0 (Ev.bind (deg_s h v0 (by omega)) (ev_pos z1 (ev_pos (by omega) (Ev.bind (deg_s hrr v0 (by omega)) (ev_neg z2 (Ev.now _)))))))
      · refine ⟨-1, .inr ⟨fun y => z1 (y v v0 (by omega)).1, rfl⟩, ev_k ?_⟩
        simp only [spec_l08Degree.l0]
        exact ev_pos (by omega) (ev_pos v0 (Ev.bind (deg_s h v0 (by omega)) (ev_neg z1 (Ev.now _))))
  have hlen : ((l ++ r).length : Int) = 2 * n := by rw [List.length_append]; omega
  have at1 : ∀ v, 0 ≤ v → v < n → rd (l ++ r) v = rd l v := fun v v0 v1 => by
    have : v.toNat < l.length := by omega
    simp only [rd, List.getD_eq_getElem?_getD, List.getElem?_append_left this]
  have at2 : ∀ v, 0 ≤ v → v < n → rd (l ++ r) (n + v) = rd r v := fun v v0 v1 => by
    simp only [rd, List.getD_eq_getElem?_getD]
    rw [List.getElem?_append_right (by omega), show (n + v).toNat - l.length = v.toNat by omega]
  have il : ∀ (d : Nat) (i : Int), 0 ≤ i → i ≤ 2 * n → 2 * n - i = d → (∀ w, 0 ≤ w → w < n → (w < i → deg l w = deg l 0) ∧ (n + w < i → deg r w = deg l 0)) → ∃ g, ((regD n l r ∧ g = deg l 0) ∨ (¬ regD n l r ∧ g = -1)) ∧ Ev (fun k => impl_Digraph_degree.l0 k (deg l 0) (l ++ r) ((l ++ r).length : Int) i) g := by
    intro d
    induction d with
    | zero =>
      intro i i0 i1 hd hb
      refine ⟨deg l 0, .inl ⟨fun w w0 w1 => ⟨(hb w w0 w1).1 (by omega), (hb w w0 w1).2 (by omega)⟩, rfl⟩, ev_k ?_⟩
      simp only [impl_Digraph_degree.l0]
      exact ev_neg (by omega) (Ev.now _)
    | succ d ih =>
      intro i i0 i1 hd hb
      have hsz : ∃ g, impl_size.f (rd (l ++ r) i) = some g ∧ ((i < n ∧ g = deg l i) ∨ (n ≤ i ∧ g = deg r (i - n))) := by
        by_cases y : i < n
        · exact ⟨_, by rw [at1 i i0 y]; exact deg_i h i0 y, .inl ⟨y, rfl⟩⟩
        · refine ⟨_, ?_, .inr ⟨by omega, rfl⟩⟩
          have := at2 (i - n) (by omega) (by omega)
          rw [show n + (i - n) = i by omega] at this
          rw [this]
          exact deg_i hrr (by omega) (by omega)
      obtain ⟨g0, hg0, hcase⟩ := hsz
      by_cases z : g0 = deg l 0
      · obtain ⟨g, hg, hE⟩ := ih (i + 1) (by omega) (by omega) (by omega) (fun w w0 w1 => by
          have hb' := hb w w0 w1
          constructor
          · intro q
            by_cases y : w = i
            · rcases hcase with ⟨c1, c2⟩ | ⟨c1, _⟩
              · rw [y, ← c2, z]
              · omega
            · exact hb'.1 (by omega)
          · intro q
            by_cases y : n + w = i
            · rcases hcase with ⟨c1, _⟩ | ⟨c1, c2⟩
              · omega
              · rw [show w = i - n by omega, ← c2, z]
            · exact hb'.2 (by omega))
        refine ⟨g, hg, ev_k ?_⟩
        simp only [impl_Digraph_degree.l0]
        rw [hg0, w64 (a := i + 1) (by omega) (by omega)]
        exact ev_pos (by omega) (ev_pos i0 (ev_pos (by omega) (ev_pos z hE)))
      · refine ⟨-1, .inr ⟨fun y => z ?_, rfl⟩, ev_k ?_⟩
        · rcases hcase with ⟨c1, c2⟩ | ⟨c1, c2⟩
          · rw [c2]; exact (y i i0 c1).1
          · rw [c2]; exact (y (i - n) (by omega) (by omega)).2
        · simp only [impl_Digraph_degree.l0]
          rw [hg0]
          exact ev_pos (by omega) (ev_pos i0 (ev_pos (by omega) (ev_neg z (Ev.now _))))
  obtain ⟨g, hg, hE⟩ := sl n.toNat 0 (by omega) (by omega) (by omega) (fun w w0 w1 => by omega)
  obtain ⟨g', hg', hE'⟩ := il (2 * n).toNat 0 (by omega) (by omega) (by omega) (fun w w0 w1 => ⟨fun _ => by omega, fun _ => by omega⟩)
  obtain rfl : g = g' := by
    rcases hg with ⟨a, b⟩ | ⟨a, b⟩ <;> rcases hg' with ⟨c, d⟩ | ⟨c, d⟩
    · rw [b, d]
    · exact absurd a c
    · exact absurd c a
    · rw [b, d]
  refine ⟨g, by rcases hg with ⟨_, b⟩ | ⟨_, b⟩ <;> omega, ?_, ?_⟩
  · unfold spec_l08Degree.f
    exact Ev.bind hs (ev_pos (by omega) (Ev.bind (deg_s h (by omega) (by omega)) hE))
  · unfold impl_Digraph_degree.f
    have hc : slices_Concat_int64_int64.f [l, r] = some (l ++ r) := by
      unfold slices_Concat_int64_int64.f
      rw [show [l, r].flatten = l ++ r by simp, if_pos (by omega), if_pos (by omega), if_pos (by simp)]
    exact ev_pos (by omega) (ev_bind0 (deg_i h (by omega) (by omega)) (Ev.bind hi (ev_bind0 hc hE')))
end Go.Proofs.YtkmpkcofddpdgaaDoor.Q
namespace Go.Proofs.YtkmpkcofddpdgaaDoor.Q
open Go Go.RowKit Go.Proofs.YtkmpkcofddpdgaaDoorW.PrintWords Go.Proofs.YtkmpkcofddpdgaaDoorW.PrintMore
def Wk (n : Int) (l : List Int) (s : Int) : Nat → Int → Prop
  | 0, u => u = s
  | k + 1, u => (0 ≤ u ∧ u < n) ∧ ∃ w, (0 ≤ w ∧ w < n) ∧ Wk n l s k w ∧ tb (rd l w) u = true
def Ds (n : Int) (l : List Int) (s : Int) (d : Nat) (u : Int) : Prop := Wk n l s d u ∧ ∀ j, j < d → ¬ Wk n l s j u
theorem Ds.uniq {n : Int} {l : List Int} {s u : Int} {d e : Nat} (h : Ds n l s d u) (g : Ds n l s e u) : d = e := by
  rcases Nat.lt_trichotomy d e with z | z | z
  · exact absurd h.1 (g.2 d z)
  · exact z
  · exact absurd g.1 (h.2 e z)
theorem Wk.range {n : Int} {l : List Int} {s : Int} (s0 : 0 ≤ s) (s1 : s < n) {k : Nat} {u : Int} (h : Wk n l s k u) : 0 ≤ u ∧ u < n := by
  cases k with
  | zero => cases h; exact ⟨s0, s1⟩
  | succ k => exact h.1
theorem Wk.least {n : Int} {l : List Int} {s u : Int} (k : Nat) (h : Wk n l s k u) : ∃ d, d ≤ k ∧ Ds n l s d u := by
  induction k using Nat.strongRecOn with
  | _ k ih =>
    by_cases hj : ∃ j, j < k ∧ Wk n l s j u
    · obtain ⟨j, hj, hw⟩ := hj
      obtain ⟨d, hd, h2⟩ := ih j hj hw
      exact ⟨d, by omega, h2⟩
    · exact ⟨k, Nat.le_refl _, h, fun j hj' hw => hj ⟨j, hj', hw⟩⟩
theorem Ds.ahead {n : Int} {l : List Int} {s u : Int} {d : Nat} (h : Ds n l s (d + 1) u) : ∃ w, (0 ≤ w ∧ w < n) ∧ Ds n l s d w ∧ tb (rd l w) u = true := by
  obtain ⟨⟨hu, w, hw, hk, ht⟩, hm⟩ := h
  refine ⟨w, hw, ⟨hk, fun j hj hwj => hm (j + 1) (by omega) ⟨hu, w, hw, hwj, ht⟩⟩, ht⟩
theorem Ds.stops {n : Int} {l : List Int} {s : Int} {d : Nat} (h : ∀ w, ¬ Ds n l s d w) : ∀ e, d ≤ e → ∀ u, ¬ Ds n l s e u := by
  intro e he
  induction e with
  | zero =>
    obtain rfl : d = 0 := by omega
    exact h
  | succ e ih =>
    by_cases z : d = e + 1
    · subst z
      exact h
    · intro u hu
      obtain ⟨w, _, hw, _⟩ := hu.ahead
      exact ih (by omega) w hw
theorem Ds.next {n : Int} {l : List Int} {s u : Int} {d : Nat} (hu : 0 ≤ u ∧ u < n) : Ds n l s (d + 1) u ↔ (∃ w, (0 ≤ w ∧ w < n) ∧ Ds n l s d w ∧ tb (rd l w) u = true) ∧ ¬ ∃ j, j ≤ d ∧ Wk n l s j u := by
  constructor
  · intro h
    exact ⟨h.ahead, fun ⟨j, hj, hw⟩ => h.2 j (by omega) hw⟩
  · rintro ⟨⟨w, hw, hd, ht⟩, hno⟩
    exact ⟨⟨hu, w, hw, hd.1, ht⟩, fun j hj hwj => hno ⟨j, by omega, hwj⟩⟩
def DistL (n : Int) (l : List Int) (s : Int) (ds : List Int) : Prop := (ds.length : Int) = n ∧ ∀ u, 0 ≤ u → u < n → (rd ds u = -1 ∧ ∀ j, ¬ Wk n l s j u) ∨ ∃ d : Nat, rd ds u = (d : Int) ∧ Ds n l s d u
theorem DistL.eq {n : Int} {l : List Int} {s : Int} {a b : List Int} (ha : DistL n l s a) (hb : DistL n l s b) : a = b := by
  refine rd_ext (by have := ha.1; have := hb.1; omega) fun v v0 v1 => ?_
  have v1 : v < n := by have := ha.1; omega
  rcases ha.2 v v0 v1 with ⟨e, h⟩ | ⟨d, e, h⟩ <;> rcases hb.2 v v0 v1 with ⟨f, g⟩ | ⟨c, f, g⟩
  · rw [e, f]
  · exact absurd g.1 (h c)
  · exact absurd h.1 (g d)
  · rw [e, f, h.uniq g]
theorem Ds.zero (n : Int) (l : List Int) (s u : Int) : Ds n l s 0 u ↔ u = s := ⟨fun h => h.1, fun h => ⟨h, fun j hj => by omega⟩⟩
structure Dist (n : Int) (l : List Int) (s : Int) (r : List Int) : Prop where
  len : (r.length : Int) = n
  src : ∀ u, 0 ≤ u → u < n → (rd r u = 0 ↔ u = s)
  next : ∀ (d u : Int), 0 ≤ d → 0 ≤ u → u < n → (rd r u = d + 1 ↔ (∃ w, (0 ≤ w ∧ w < n) ∧ rd r w = d ∧ tb (rd l w) u = true) ∧ ¬ (0 ≤ rd r u ∧ rd r u ≤ d))
  low : ∀ u, 0 ≤ u → u < n → -1 ≤ rd r u
  stops : ∀ d, 0 ≤ d → (∀ u, 0 ≤ u → u < n → rd r u ≠ d) → ∀ u, 0 ≤ u → u < n → rd r u < d
theorem DistL.ds {n : Int} {l : List Int} {s : Int} {r : List Int} (h : DistL n l s r) {u : Int} (u0 : 0 ≤ u) (u1 : u < n) (d : Nat) : rd r u = (d : Int) ↔ Ds n l s d u := by
  rcases h.2 u u0 u1 with ⟨e, g⟩ | ⟨c, e, g⟩
  · exact ⟨fun z => by omega, fun z => absurd z.1 (g d)⟩
  · constructor
    · intro z
      have : c = d := by omega
      exact this ▸ g
    · intro z
      rw [e, g.uniq z]
theorem DistL.met {n : Int} {l : List Int} {s : Int} {r : List Int} (h : DistL n l s r) {u : Int} (u0 : 0 ≤ u) (u1 : u < n) (d : Nat) : (0 ≤ rd r u ∧ rd r u ≤ (d : Int)) ↔ ∃ j, j ≤ d ∧ Wk n l s j u := by
  constructor
  · intro z
    have := (h.ds u0 u1 (rd r u).toNat).1 (by omega)
    exact ⟨(rd r u).toNat, by omega, this.1⟩
  · rintro ⟨j, hj, hw⟩
    obtain ⟨c, hc, hd⟩ := hw.least
    have := (h.ds u0 u1 c).2 hd
    omega
theorem DistL.dist {n : Int} {l : List Int} {s : Int} {r : List Int} (h : DistL n l s r) : Dist n l s r where
  len := h.1
  src := fun u u0 u1 => (h.ds u0 u1 0).trans (Ds.zero n l s u)
  next := fun d u d0 u0 u1 => by
    obtain ⟨d, rfl⟩ := Int.eq_ofNat_of_zero_le d0
    have a := h.ds u0 u1 (d + 1)
    rw [show ((d + 1 : Nat) : Int) = (d : Int) + 1 by omega] at a
    rw [a, Ds.next ⟨u0, u1⟩, h.met u0 u1]
    refine and_congr ⟨?_, ?_⟩ Iff.rfl
    · rintro ⟨w, hw, hd, ht⟩
      exact ⟨w, hw, (h.ds hw.1 hw.2 d).2 hd, ht⟩
    · rintro ⟨w, hw, hd, ht⟩
      exact ⟨w, hw, (h.ds hw.1 hw.2 d).1 hd, ht⟩
  low := fun u u0 u1 => by
    rcases h.2 u u0 u1 with ⟨e, _⟩ | ⟨c, e, _⟩ <;> omega
  stops := fun d d0 hd u u0 u1 => by
    obtain ⟨d, rfl⟩ := Int.eq_ofNat_of_zero_le d0
    rcases h.2 u u0 u1 with ⟨e, _⟩ | ⟨c, e, g⟩
    · omega
    · by_cases z : c < d
      · omega
      · refine absurd g ?_
        refine Ds.stops (d := d) (fun w hw => ?_) c (by omega) u
        have hr : 0 ≤ w ∧ w < n := by
          cases d with
          | zero =>
            have hs : w = s := hw.1
            by_cases hc : 0 ≤ s ∧ s < n
            · rw [hs]; exact hc
            · exfalso
              have key : ∀ (c : Nat) (u : Int), 0 ≤ u → u < n → ¬ Ds n l s c u := by
                intro c
                induction c with
                | zero => intro u u0 u1 z; have : u = s := z.1; exact hc ⟨by omega, by omega⟩
                | succ c ih => intro u u0 u1 z; obtain ⟨w, hw, hd, _⟩ := z.ahead; exact ih w hw.1 hw.2 hd
              exact key c u u0 u1 g
          | succ d => exact hw.1.1
        exact hd w hr.1 hr.2 ((h.ds hr.1 hr.2 d).2 hw)
open Classical in
theorem distL_exists (n : Int) (l : List Int) (s : Int) (n0 : 0 ≤ n) : ∃ r, DistL n l s r := by
  let f : Nat → Int := fun u => if h : ∃ d : Nat, Ds n l s d (u : Int) then (h.choose : Int) else -1
  refine ⟨(List.range n.toNat).map f, by simp; omega, fun u u0 u1 => ?_⟩
  have e : rd ((List.range n.toNat).map f) u = f u.toNat := by
    have : u.toNat < n.toNat := by omega
    simp [rd, List.getD_eq_getElem?_getD, this]
  rw [e]
  have hu : ((u.toNat : Nat) : Int) = u := Int.toNat_of_nonneg u0
  show _ ∨ _
  by_cases h : ∃ d : Nat, Ds n l s d ((u.toNat : Nat) : Int)
  · refine .inr ⟨h.choose, dif_pos h, ?_⟩
    have go : ∀ (c : Nat) (z : Int), z = u → Ds n l s c z → Ds n l s c u := fun c z e h => e ▸ h
    exact go _ _ hu h.choose_spec
  · refine .inl ⟨dif_neg h, fun j hj => h ?_⟩
    obtain ⟨d, _, hd⟩ := hj.least
    exact ⟨d, by rwa [hu]⟩
theorem length_of_all (K : Nat) : ∀ xs : List Nat, (∀ d, d < K → d ∈ xs) → K ≤ xs.length := by
  induction K with
  | zero => intro xs _; omega
  | succ K ih =>
    intro xs h
    have hm := h K (by omega)
    have := ih (xs.erase K) fun d hd => (List.mem_erase_of_ne (by omega)).2 (h d (by omega))
    have := List.length_erase_of_mem hm
    have := List.length_pos_of_mem hm
    omega
theorem Dist.level {n : Int} {l : List Int} {s : Int} {r : List Int} (h : Dist n l s r) (D : Nat) : ∀ u, 0 ≤ u → u < n → rd r u = (D : Int) → ∀ d, d ≤ D → ∃ w, (0 ≤ w ∧ w < n) ∧ rd r w = (d : Int) := by
  induction D with
  | zero => intro u u0 u1 hu d hd; exact ⟨u, ⟨u0, u1⟩, by rw [hu]; omega⟩
  | succ D ih =>
    intro u u0 u1 hu d hd
    by_cases e : d = D + 1
    · exact ⟨u, ⟨u0, u1⟩, by rw [hu, e]⟩
    · obtain ⟨⟨w, hw, hd', _⟩, _⟩ := (h.next D u (by omega) u0 u1).1 (by rw [hu]; omega)
      exact ih w hw.1 hw.2 hd' d (by omega)
theorem Dist.small {n : Int} {l : List Int} {s : Int} {r : List Int} (h : Dist n l s r) : ∀ u, 0 ≤ u → u < n → rd r u < n := by
  intro u u0 u1
  by_cases z : rd r u < 0
  · omega
  · have lv := h.level (rd r u).toNat u u0 u1 (by omega)
    have := length_of_all ((rd r u).toNat + 1) (r.map Int.toNat) fun d hd => by
      obtain ⟨w, hw, e⟩ := lv d (by omega)
      have hl := h.len
      have hwl : w.toNat < r.length := by omega
      have e2 : rd r w = r[w.toNat] := by simp [rd, List.getD_eq_getElem?_getD, List.getElem?_eq_getElem hwl]
      exact List.mem_map.2 ⟨r[w.toNat], List.getElem_mem _, by rw [← e2, e]; omega⟩
    rw [List.length_map] at this
    have := h.len
    omega
end Go.Proofs.YtkmpkcofddpdgaaDoor.Q
namespace Go.Proofs.YtkmpkcofddpdgaaDoor.Q
open Go Go.RowKit Go.Proofs.YtkmpkcofddpdgaaDoorW.PrintWords Go.Proofs.YtkmpkcofddpdgaaDoorW.PrintMore
theorem rd_app_left {q : List Int} {u : Int} {i : Int} (i0 : 0 ≤ i) (i1 : i < q.length) : rd (q ++ [u]) i = rd q i := by
  simp only [rd, List.getD_eq_getElem?_getD]
  rw [List.getElem?_append_left (by omega)]
theorem rd_app_last (q : List Int) (u : Int) : rd (q ++ [u]) q.length = u := by
  simp [rd, List.getD_eq_getElem?_getD]
theorem rd_mem {q : List Int} {i : Int} (i0 : 0 ≤ i) (i1 : i < q.length) : rd q i ∈ q := by
  have hu : i.toNat < q.length := by omega
  have : rd q i = q[i.toNat] := by simp [rd, List.getD_eq_getElem?_getD, List.getElem?_eq_getElem hu]
  rw [this]
  exact List.getElem_mem _
theorem mem_rd {q : List Int} {u : Int} (h : u ∈ q) : ∃ i : Int, (0 ≤ i ∧ i < q.length) ∧ rd q i = u := by
  obtain ⟨i, hi, rfl⟩ := List.getElem_of_mem h
  exact ⟨i, by omega, by simp [rd, List.getD_eq_getElem?_getD, List.getElem?_eq_getElem hi]⟩
structure QI (n : Int) (l : List Int) (s : Int) (r ds q : List Int) (i : Int) : Prop where
  len : (ds.length : Int) = n
  at0 : 0 ≤ i ∧ i ≤ q.length
  val : ∀ u, 0 ≤ u → u < n → rd ds u = -1 ∨ (rd ds u = rd r u ∧ 0 ≤ rd r u)
  mem : ∀ u, u ∈ q ↔ (0 ≤ u ∧ u < n) ∧ 0 ≤ rd ds u
  mono : ∀ a b : Int, 0 ≤ a → a ≤ b → b < q.length → rd r (rd q a) ≤ rd r (rd q b)
  top : i < q.length → ∀ b : Int, 0 ≤ b → b < q.length → rd r (rd q b) ≤ rd r (rd q i) + 1
  clos : ∀ a : Int, 0 ≤ a → a < i → ∀ u, 0 ≤ u → u < n → tb (rd l (rd q a)) u = true → 0 ≤ rd ds u
  met : i < q.length → ∀ u, 0 ≤ u → u < n → 0 ≤ rd r u → rd r u ≤ rd r (rd q i) → 0 ≤ rd ds u
  cnt : ds.count (-1) + q.length = n
  src : s ∈ q
section
variable {n : Int} {l : List Int} {s : Int} {r : List Int} (hr : Dist n l s r)
theorem QI.head {ds q : List Int} {i : Int} (h : QI n l s r ds q i) (hi : i < q.length) : (0 ≤ rd q i ∧ rd q i < n) ∧ rd ds (rd q i) = rd r (rd q i) ∧ 0 ≤ rd r (rd q i) := by
  obtain ⟨hw, h0⟩ := (h.mem (rd q i)).1 (rd_mem h.at0.1 hi)
  rcases h.val _ hw.1 hw.2 with e | e
  · omega
  · exact ⟨hw, e.1, e.2⟩
theorem QI.at_ {ds q : List Int} {i : Int} (h : QI n l s r ds q i) {a : Int} (a0 : 0 ≤ a) (a1 : a < q.length) : (0 ≤ rd q a ∧ rd q a < n) ∧ rd ds (rd q a) = rd r (rd q a) ∧ 0 ≤ rd r (rd q a) := by
  obtain ⟨hw, h0⟩ := (h.mem (rd q a)).1 (rd_mem a0 a1)
  rcases h.val _ hw.1 hw.2 with e | e
  · omega
  · exact ⟨hw, e.1, e.2⟩
include hr
theorem QI.add {ds q : List Int} {i : Int} (h : QI n l s r ds q i) (hi : i < q.length) {u : Int} (u0 : 0 ≤ u) (u1 : u < n) (ht : tb (rd l (rd q i)) u = true) (hu : rd ds u < 0) : rd r u = rd r (rd q i) + 1 ∧ QI n l s r (ds.set u.toNat (rd r u)) (q ++ [u]) i := by
  obtain ⟨hw, hd, h0⟩ := h.head hi
  have i0 := h.at0.1
  have hnext := hr.next (rd r (rd q i)) u h0 u0 u1
  have e : rd r u = rd r (rd q i) + 1 := by
    refine hnext.2 ⟨⟨rd q i, hw, rfl, ht⟩, fun z => ?_⟩
    have := h.met hi u u0 u1 z.1 z.2
    omega
  have hlen := h.len
  have hs : ∀ v, 0 ≤ v → rd (ds.set u.toNat (rd r u)) v = if v = u then rd r u else rd ds v := fun v v0 => rd_set _ u0 (by omega) v0
  have nm : ∀ v, 0 ≤ v → 0 ≤ rd ds v → 0 ≤ rd (ds.set u.toNat (rd r u)) v := fun v v0 z => by
    rw [hs v v0]
    split <;> omega
  have len2 : ((q ++ [u]).length : Int) = q.length + 1 := by simp
  refine ⟨e, ⟨by simpa using hlen, by omega, fun v v0 v1 => ?_, fun v => ?_, fun a b a0 ab b1 => ?_, fun _ b b0 b1 => ?_, fun a a0 a1 v v0 v1 tv => ?_, fun _ v v0 v1 z y => ?_, ?_, by simp [h.src]⟩⟩
  · rw [hs v v0]
    by_cases z : v = u
    · rw [if_pos z, z]
      exact .inr ⟨rfl, by omega⟩
    · rw [if_neg z]
      exact h.val v v0 v1
  · rw [List.mem_append, List.mem_singleton, h.mem v]
    constructor
    · rintro (⟨z, y⟩ | rfl)
      · exact ⟨z, nm v z.1 y⟩
      · exact ⟨⟨u0, u1⟩, by rw [hs v u0, if_pos rfl]; omega⟩
    · rintro ⟨z, y⟩
      by_cases q : v = u
      · exact .inr q
      · rw [hs v z.1, if_neg q] at y
        exact .inl ⟨z, y⟩
  · by_cases hb : b = q.length
    · subst hb
      rw [rd_app_last]
      by_cases ha : a = q.length
      · subst ha
        rw [rd_app_last]
        omega
      · rw [rd_app_left a0 (by omega), e]
        exact h.top hi a a0 (by omega)
    · rw [rd_app_left a0 (by omega), rd_app_left (by omega) (by omega)]
      exact h.mono a b a0 ab (by omega)
  · rw [rd_app_left (q := q) (i := i) i0 hi]
    by_cases hb : b = q.length
    · subst hb
      rw [rd_app_last]
      omega
    · rw [rd_app_left b0 (by omega)]
      exact h.top hi b b0 (by omega)
  · rw [rd_app_left a0 (by omega)] at tv
    exact nm v v0 (h.clos a a0 a1 v v0 v1 tv)
  · rw [rd_app_left (q := q) (i := i) i0 hi] at y
    exact nm v v0 (h.met hi v v0 v1 z y)
  · have hul : u.toNat < ds.length := by omega
    have e1 : ds[u.toNat] = -1 := by
      have := h.val u u0 u1
      have e2 : rd ds u = ds[u.toNat] := by simp [rd, List.getD_eq_getElem?_getD, List.getElem?_eq_getElem hul]
      omega
    have c := List.count_set (a := rd r u) (b := (-1 : Int)) hul
    have cp : 0 < ds.count (-1) := List.count_pos_iff.2 (by rw [← e1]; exact List.getElem_mem _)
    rw [e1, if_pos (by simp), if_neg (by simp; omega)] at c
    have := h.cnt
    rw [c, List.length_append]
    simp
    omega
theorem QI.step {ds q : List Int} {i : Int} (h : QI n l s r ds q i) (hi : i < q.length) (hp : ∀ u, 0 ≤ u → u < n → tb (rd l (rd q i)) u = true → 0 ≤ rd ds u) : QI n l s r ds q (i + 1) := by
  obtain ⟨hw, hd, h0⟩ := h.head hi
  have i0 := h.at0.1
  have hcl : ∀ a : Int, 0 ≤ a → a < i + 1 → ∀ u, 0 ≤ u → u < n → tb (rd l (rd q a)) u = true → 0 ≤ rd ds u := fun a a0 a1 u u0 u1 tu => by
    by_cases e : a = i
    · subst e
      exact hp u u0 u1 tu
    · exact h.clos a a0 (by omega) u u0 u1 tu
  refine ⟨h.len, by omega, h.val, h.mem, h.mono, fun hi2 b b0 b1 => ?_, hcl, fun hi2 u u0 u1 z y => ?_, h.cnt, h.src⟩
  · have a := h.mono i (i + 1) i0 (by omega) hi2
    have c := h.top hi b b0 b1
    omega
  · have a := h.mono i (i + 1) i0 (by omega) hi2
    have c := h.top hi (i + 1) (by omega) hi2
    by_cases e : rd r u ≤ rd r (rd q i)
    · exact h.met hi u u0 u1 z e
    · obtain ⟨⟨w, hw, hwd, ht⟩, _⟩ := (hr.next (rd r (rd q i)) u h0 u0 u1).1 (by omega)
      have hwq : w ∈ q := (h.mem w).2 ⟨hw, h.met hi w hw.1 hw.2 (by omega) (by omega)⟩
      obtain ⟨a, ha, hae⟩ := mem_rd hwq
      have : a < i + 1 := by
        by_cases z2 : a < i + 1
        · exact z2
        · have := h.mono (i + 1) a (by omega) (by omega) ha.2
          rw [hae] at this
          omega
      rw [← hae] at ht
      exact hcl a ha.1 this u u0 u1 ht
theorem QI.done {ds q : List Int} {i : Int} (h : QI n l s r ds q i) (hi : ¬ i < q.length) : ds = r := by
  have hall : ∀ (d : Nat) (u : Int), 0 ≤ u → u < n → rd r u = (d : Int) → 0 ≤ rd ds u := by
    intro d
    induction d with
    | zero =>
      intro u u0 u1 hu
      have := (hr.src u u0 u1).1 hu
      subst this
      exact ((h.mem _).1 h.src).2
    | succ d ih =>
      intro u u0 u1 hu
      obtain ⟨⟨w, hw, hwd, ht⟩, _⟩ := (hr.next d u (by omega) u0 u1).1 (by omega)
      obtain ⟨a, ha, hae⟩ := mem_rd ((h.mem w).2 ⟨hw, ih w hw.1 hw.2 hwd⟩)
      rw [← hae] at ht
      exact h.clos a ha.1 (by omega) u u0 u1 ht
  refine rd_ext (by have := h.len; have := hr.len; omega) fun u u0 u1 => ?_
  have u1 : u < n := by have := h.len; omega
  have lw := hr.low u u0 u1
  rcases h.val u u0 u1 with e | e
  · by_cases z : rd r u < 0
    · omega
    · have := hall (rd r u).toNat u u0 u1 (by omega)
      omega
  · exact e.1
theorem QI.start (s0 : 0 ≤ s) (s1 : s < n) : QI n l s r ((List.replicate n.toNat (-1)).set s.toNat 0) [s] 0 := by
  have hs : ∀ v, 0 ≤ v → v < n → rd ((List.replicate n.toNat (-1)).set s.toNat 0) v = if v = s then 0 else -1 := fun v v0 v1 => by
    rw [rd_set _ s0 (by simp; omega) v0]
    have : v.toNat < n.toNat := by omega
    split
    · rfl
    · simp [rd, List.getD_eq_getElem?_getD, this]
  have h0 : rd [s] 0 = s := rfl
  have e0 := (hr.src s s0 s1).2 rfl
  have one : ∀ b : Int, 0 ≤ b → b < ([s].length : Nat) → rd [s] b = s := fun b b0 b1 => by
    obtain rfl : b = 0 := by simp at b1; omega
    rfl
  refine ⟨by simp; omega, by simp, fun u u0 u1 => ?_, fun u => ?_, fun a b a0 ab b1 => ?_, fun _ b b0 b1 => ?_, fun a a0 a1 => by omega, fun _ u u0 u1 z y => ?_, ?_, by simp⟩
  · rw [hs u u0 u1]
    by_cases e : u = s
    · rw [if_pos e, e, e0]
      exact .inr ⟨rfl, by omega⟩
    · exact .inl (if_neg e)
  · rw [List.mem_singleton]
    constructor
    · rintro rfl
      exact ⟨⟨s0, s1⟩, by rw [hs u s0 s1, if_pos rfl]; omega⟩
    · rintro ⟨z, y⟩
      rw [hs u z.1 z.2] at y
      by_cases e : u = s
      · exact e
      · rw [if_neg e] at y
        omega
  · rw [one a a0 (by omega), one b (by omega) b1]
    omega
  · rw [one b b0 b1, h0]
    omega
  · rw [h0, e0] at y
    rw [(hr.src u u0 u1).1 (by omega), hs s s0 s1, if_pos rfl]
    omega
  · have hul : s.toNat < (List.replicate n.toNat (-1 : Int)).length := by simp; omega
    have c := List.count_set (a := (0 : Int)) (b := (-1 : Int)) hul
    rw [c]
    simp
    omega
end
end Go.Proofs.YtkmpkcofddpdgaaDoor.Q
namespace Go.Proofs.YtkmpkcofddpdgaaDoor.Q
open Go Go.RowKit Go.Proofs.YtkmpkcofddpdgaaDoor.P Go.Proofs.YtkmpkcofddpdgaaDoorW.PrintWords Go.Proofs.YtkmpkcofddpdgaaDoorW.PrintMore
theorem r_index (l : List Int) (hl : l.length ≤ 1152921504606846976) (x : Int) (d : Nat) : ∀ i : Int, 0 ≤ i → i ≤ l.length → l.length - i = d → ∃ r, Ev (fun k => slices_Index_int64_int64.l0 k l x l.length i) r ∧ (0 ≤ r ↔ ∃ j : Int, i ≤ j ∧ j < l.length ∧ rd l j = x) := by
  induction d with
  | zero =>
    intro i i0 i1 hd
    refine ⟨-1, ev_k ?_, fun z => by omega, fun ⟨j, a, b, _⟩ => by omega⟩
    simp only [slices_Index_int64_int64.l0]
    exact ev_neg (by omega) (Ev.now _)
  | succ d ih =>
    intro i i0 i1 hd
    by_cases h : x = rd l i
    · refine ⟨i, ev_k ?_, fun _ => ⟨i, by omega, by omega, h.symm⟩, fun _ => i0⟩
      simp only [slices_Index_int64_int64.l0]
      exact ev_pos (by omega) (ev_pos i0 (ev_pos (by omega) (ev_pos h (Ev.now _))))
    · obtain ⟨r, hr, e⟩ := ih (i + 1) (by omega) (by omega) (by omega)
      refine ⟨r, ev_k ?_, e.trans ⟨fun ⟨j, a, b, c⟩ => ⟨j, by omega, b, c⟩, fun ⟨j, a, b, c⟩ => ⟨j, by
        by_cases z : j = i
        · rw [z] at c; exact absurd c.symm h
        · omega, b, c⟩⟩⟩
      simp only [slices_Index_int64_int64.l0]
      rw [w64 (a := i + 1) (by omega) (by omega)]
      exact ev_pos (by omega) (ev_pos i0 (ev_pos (by omega) (ev_neg h hr)))
theorem r_contains (l : List Int) (hl : l.length ≤ 1152921504606846976) (x : Int) : ∃ b : Bool, Ev (fun k => slices_Contains_int64_int64.f k l x) b ∧ (b = true ↔ ∃ j : Int, 0 ≤ j ∧ j < l.length ∧ rd l j = x) := by
  obtain ⟨r, hr, e⟩ := r_index l hl x l.length 0 (by omega) (by omega) (by omega)
  refine ⟨decide (r ≥ 0), ?_, by rw [decide_eq_true_iff]; exact e⟩
  unfold slices_Contains_int64_int64.f slices_Index_int64_int64.f
  exact Ev.bind hr (Ev.now _)
end Go.Proofs.YtkmpkcofddpdgaaDoor.Q
namespace Go.Proofs.YtkmpkcofddpdgaaDoor.Q
open Go Go.RowKit Go.Proofs.YtkmpkcofddpdgaaDoorW.PrintWords Go.Proofs.YtkmpkcofddpdgaaDoorW.PrintMore
open Classical in
noncomputable def dist (n : Int) (l : List Int) (s : Int) : List Int := if h : 0 ≤ n then (distL_exists n l s h).choose else []
theorem distL (n : Int) (l : List Int) (s : Int) (n0 : 0 ≤ n) : DistL n l s (dist n l s) := by
  unfold dist
  rw [dif_pos n0]
  exact (distL_exists n l s n0).choose_spec
theorem dist_of (n : Int) (l : List Int) (s : Int) (n0 : 0 ≤ n) : Dist n l s (dist n l s) := (distL n l s n0).dist
end Go.Proofs.YtkmpkcofddpdgaaDoor.Q
namespace Go.Proofs.YtkmpkcofddpdgaaDoor.Q
open Go Go.RowKit Go.Proofs.YtkmpkcofddpdgaaDoorW.PrintWords Go.Proofs.YtkmpkcofddpdgaaDoorW.PrintMore
def Rw (n x : Int) : Prop := 0 ≤ x ∧ x < 2 ^ n.toNat
theorem Rw.nat {n x : Int} (n2 : n ≤ 62) (h : Rw n x) : ∃ y : Nat, x = (y : Int) ∧ y < 2 ^ n.toNat ∧ y < 2 ^ 62 := by
  obtain ⟨h0, h1⟩ := h
  have e : ((2 : Int) ^ n.toNat) = ((2 ^ n.toNat : Nat) : Int) := by simp
  have p : 2 ^ n.toNat ≤ 2 ^ 62 := Nat.pow_le_pow_right (by decide) (by omega)
  rw [e] at h1
  exact ⟨x.toNat, by omega, by omega, by omega⟩
theorem Rw.of {n : Int} {y : Nat} (h : y < 2 ^ n.toNat) : Rw n (y : Int) := by
  have e : ((2 : Int) ^ n.toNat) = ((2 ^ n.toNat : Nat) : Int) := by simp
  exact ⟨by omega, by rw [e]; omega⟩
theorem or_rw {n x y : Int} (n2 : n ≤ 62) (hx : Rw n x) (hy : Rw n y) : Rw n (bits .or .i64 x y) ∧ ∀ w, 0 ≤ w → (tb (bits .or .i64 x y) w = true ↔ tb x w = true ∨ tb y w = true) := by
  obtain ⟨a, rfl, a1, a2⟩ := hx.nat n2
  obtain ⟨b, rfl, b1, b2⟩ := hy.nat n2
  rw [or_nat a b (by omega) (by omega)]
  refine ⟨Rw.of (Nat.or_lt_two_pow a1 b1), fun w w0 => ?_⟩
  obtain ⟨w, rfl⟩ := Int.eq_ofNat_of_zero_le w0
  rw [tb_nat, tb_nat, tb_nat, Nat.testBit_or]
  simp
theorem andNot_rw {n x y : Int} (n2 : n ≤ 62) (hx : Rw n x) (hy : Rw n y) : Rw n (bits .andNot .i64 x y) ∧ ∀ w, 0 ≤ w → (tb (bits .andNot .i64 x y) w = true ↔ tb x w = true ∧ ¬ tb y w = true) := by
  obtain ⟨a, rfl, a1, a2⟩ := hx.nat n2
  obtain ⟨b, rfl, b1, b2⟩ := hy.nat n2
  obtain ⟨c, e, _, hc⟩ := andNot_nat a b (by omega) (by omega)
  rw [e]
  have c1 : c < 2 ^ n.toNat := by
    refine Nat.lt_pow_two_of_testBit _ fun i hi => ?_
    rw [hc, Nat.testBit_lt_two_pow (Nat.lt_of_lt_of_le a1 (Nat.pow_le_pow_right (by decide) hi))]
    rfl
  refine ⟨Rw.of c1, fun w w0 => ?_⟩
  obtain ⟨w, rfl⟩ := Int.eq_ofNat_of_zero_le w0
  rw [tb_nat, tb_nat, tb_nat, hc]
  simp
theorem one_rw {n j : Int} (n2 : n ≤ 62) (j0 : 0 ≤ j) (j1 : j < n) : Rw n (shl .i64 1 j) ∧ ∀ w, 0 ≤ w → (tb (shl .i64 1 j) w = true ↔ w = j) := by
  rw [shl_one j0 (by omega), show ((2 : Int) ^ j.toNat) = ((2 ^ j.toNat : Nat) : Int) by simp]
  refine ⟨Rw.of (Nat.pow_lt_pow_right (by decide) (by omega)), fun w w0 => ?_⟩
  obtain ⟨w, rfl⟩ := Int.eq_ofNat_of_zero_le w0
  rw [tb_nat, Nat.testBit_two_pow]
  simp
  omega
theorem zero_rw (n : Int) : Rw n 0 ∧ ∀ w, ¬ tb 0 w = true := by
  have p : (0 : Int) < 2 ^ n.toNat := Int.pow_pos (by decide)
  exact ⟨⟨by omega, p⟩, fun w => by simp [tb]⟩
theorem Rw.eq_zero {n x : Int} (n0 : 0 ≤ n) (hx : Rw n x) : x = 0 ↔ ∀ w, 0 ≤ w → w < n → ¬ tb x w = true := by
  constructor
  · rintro rfl w _ _
    exact (zero_rw n).2 w
  · intro h
    exact tb_ext hx.1 hx.2 (zero_rw n).1.1 (zero_rw n).1.2 n0 fun i i0 i1 => by
      have a := h i i0 i1
      have b := (zero_rw n).2 i
      simp at a b
      rw [a, b]
end Go.Proofs.YtkmpkcofddpdgaaDoor.Q
namespace Go.Proofs.YtkmpkcofddpdgaaDoor.Q
open Go Go.RowKit Go.Proofs.YtkmpkcofddpdgaaDoor.P Go.Proofs.YtkmpkcofddpdgaaDoorW.PrintWords Go.Proofs.YtkmpkcofddpdgaaDoorW.PrintMore
def onesFrom (x : Nat) : Nat → Nat → List Int
  | 0, _ => []
  | d + 1, m => if x.testBit m then (m : Int) :: onesFrom x d (m + 1) else onesFrom x d (m + 1)
theorem onesFrom_zero (d : Nat) : ∀ m, onesFrom 0 d m = [] := by
  induction d with
  | zero => intro m; rfl
  | succ d ih => intro m; simp [onesFrom, ih]
theorem onesFrom_congr (x y : Nat) (d : Nat) : ∀ m, (∀ i, m ≤ i → x.testBit i = y.testBit i) → onesFrom x d m = onesFrom y d m := by
  induction d with
  | zero => intro m _; rfl
  | succ d ih =>
    intro m h
    simp only [onesFrom]
    rw [h m (Nat.le_refl _), ih (m + 1) fun i hi => h i (by omega)]
theorem ctz_at {x m : Nat} (hx : x < 2 ^ 64) (hb : x.testBit m = true) (hl : ∀ i, i < m → x.testBit i = false) : Lib.ctz 64 x = m ∧ ∃ q, x = 2 ^ m * (2 * q + 1) := by
  have h0 : x ≠ 0 := by rintro rfl; simp at hb
  obtain ⟨q, e, _⟩ := Lib.ctzFrom_spec 64 x (by omega) hx
  have ec : Lib.ctz 64 x = Lib.ctzFrom 64 x := by simp [Lib.ctz, h0]
  have ht : ∀ i, x.testBit i = (decide (i ≥ Lib.ctzFrom 64 x) && (2 * q + 1).testBit (i - Lib.ctzFrom 64 x)) := fun i => by rw [← Nat.testBit_two_pow_mul, ← e]
  generalize Lib.ctzFrom 64 x = c at *
  have hc : c = m := by
    rcases Nat.lt_trichotomy c m with h | h | h
    · have a := hl c h
      rw [ht c] at a
      simp at a
    · exact h
    · rw [ht m] at hb
      have : ¬ m ≥ c := by omega
      simp [this] at hb
  subst hc
  exact ⟨ec, q, e⟩
theorem and_pred {m q : Nat} : (2 ^ m * (2 * q + 1)) &&& (2 ^ m * (2 * q + 1) - 1) = 2 ^ m * (2 * q) := by
  have p := Nat.two_pow_pos m
  have e : 2 ^ m * (2 * q + 1) - 1 = 2 ^ m * (2 * q) + (2 ^ m - 1) := by rw [Nat.mul_add]; omega
  rw [e]
  refine Nat.eq_of_testBit_eq fun i => ?_
  rw [Nat.testBit_and, Nat.testBit_two_pow_mul, Nat.testBit_two_pow_mul_add _ (by omega), Nat.testBit_two_pow_mul]
  by_cases h : i < m
  · have : ¬ i ≥ m := by omega
    simp [this]
  · have : i ≥ m := by omega
    simp only [this, decide_true, Bool.true_and, h, if_false]
    cases i - m with
    | zero => simp
    | succ j => simp [Nat.testBit_succ]; rw [show (2 * q + 1) / 2 = q by omega]; simp
theorem pred_bit {m q i : Nat} (h : m < i) : (2 ^ m * (2 * q)).testBit i = (2 ^ m * (2 * q + 1)).testBit i := by
  rw [Nat.testBit_two_pow_mul, Nat.testBit_two_pow_mul]
  obtain ⟨j, hj⟩ : ∃ j, i - m = j + 1 := ⟨i - m - 1, by omega⟩
  rw [hj, Nat.testBit_succ, Nat.testBit_succ, show (2 * q + 1) / 2 = 2 * q / 2 by omega]
theorem pred_low {m q i : Nat} (h : i < m + 1) : (2 ^ m * (2 * q)).testBit i = false := by
  rw [Nat.testBit_two_pow_mul]
  by_cases e : i = m
  · subst e
    simp
  · have : ¬ i ≥ m := by omega
    simp [this]
theorem i_list_l0 (d : Nat) : ∀ (m x : Nat) (acc : List Int), d + m = 62 → x < 2 ^ 62 → (∀ i, i < m → x.testBit i = false) → acc.length ≤ m → Ev (fun k => impl_list.l0 k (x : Int) acc) (acc ++ onesFrom x d m) := by
  have done : ∀ d m (acc : List Int), Ev (fun k => impl_list.l0 k ((0 : Nat) : Int) acc) (acc ++ onesFrom 0 d m) := by
    intro d m acc
    rw [onesFrom_zero, List.append_nil]
    refine ev_k ?_
    simp only [impl_list.l0]
    exact ev_pos rfl (Ev.now _)
  induction d with
  | zero =>
    intro m x acc hd hx hl ha
    have : x = 0 := by
      refine Nat.eq_of_testBit_eq fun i => ?_
      rw [Nat.zero_testBit]
      by_cases hi : i < m
      · exact hl i hi
      · exact Nat.testBit_lt_two_pow (Nat.lt_of_lt_of_le hx (Nat.pow_le_pow_right (by decide) (by omega)))
    subst this
    exact done 0 m acc
  | succ d ih =>
    intro m x acc hd hx hl ha
    by_cases hb : x.testBit m = true
    · obtain ⟨hc, q, e⟩ := ctz_at (Nat.lt_trans hx (by decide)) hb hl
      have x0 : x ≠ 0 := by rintro rfl; simp at hb
      have hq : 2 ^ m * (2 * q) < 2 ^ 62 := Nat.lt_of_le_of_lt (Nat.mul_le_mul_left _ (by omega)) (e ▸ hx)
      have := ih (m + 1) (2 ^ m * (2 * q)) (acc ++ [(m : Int)]) (by omega) hq (fun i hi => pred_low hi) (by simp; omega)
      have e2 : acc ++ onesFrom x (d + 1) m = acc ++ [(m : Int)] ++ onesFrom (2 ^ m * (2 * q)) d (m + 1) := by
        simp only [onesFrom, hb, if_true]
        rw [onesFrom_congr x (2 ^ m * (2 * q)) d (m + 1) fun i hi => by rw [pred_bit (by omega), ← e]]
        simp
      rw [e2]
      refine ev_k ?_
      simp only [impl_list.l0]
      refine ev_neg (by omega) ?_
      rw [wu64 (a := (x : Int)) (by omega) (by omega), w64 (a := (x : Int) - 1) (by omega) (by omega), show (x : Int) - 1 = ((x - 1 : Nat) : Int) by omega, and_nat x (x - 1) (by omega) (by omega)]
      have ex : x &&& (x - 1) = 2 ^ m * (2 * q) := by rw [e]; exact and_pred
      rw [ex]
      refine ev_bind0 (a := (m : Int)) ?_ (ev_pos (by omega) this)
      unfold bits_TrailingZeros64.f
      rw [if_pos (by omega), if_pos (by omega), Int.toNat_natCast, hc]
    · have := ih (m + 1) x acc (by omega) hx (fun i hi => if h : i = m then by rw [h]; simpa using hb else hl i (by omega)) (by omega)
      have e : onesFrom x (d + 1) m = onesFrom x d (m + 1) := by simp [onesFrom, hb]
      rwa [e]
def ones (x : Int) : List Int := onesFrom x.toNat 62 0
theorem i_list {x : Int} (h0 : 0 ≤ x) (h1 : x < 4611686018427387904) : Ev (fun k => impl_list.f k x) (ones x) := by
  obtain ⟨y, rfl⟩ := Int.eq_ofNat_of_zero_le h0
  unfold impl_list.f ones
  rw [Int.toNat_natCast]
  have := i_list_l0 62 0 y [] (by omega) (by omega) (fun i hi => by omega) (by simp)
  simpa using this
theorem onesFrom_mem (x : Nat) (d : Nat) : ∀ m (v : Int), v ∈ onesFrom x d m ↔ ∃ i : Nat, v = (i : Int) ∧ m ≤ i ∧ i < m + d ∧ x.testBit i = true := by
  induction d with
  | zero => intro m v; simp [onesFrom]; intro i _ _; omega
  | succ d ih =>
    intro m v
    simp only [onesFrom]
    have s : (∃ i : Nat, v = (i : Int) ∧ m ≤ i ∧ i < m + (d + 1) ∧ x.testBit i = true) ↔ (v = (m : Int) ∧ x.testBit m = true) ∨ ∃ i : Nat, v = (i : Int) ∧ m + 1 ≤ i ∧ i < m + 1 + d ∧ x.testBit i = true := by
      constructor
      · rintro ⟨i, rfl, h1, h2, h3⟩
        by_cases e : i = m
        · subst e
          exact .inl ⟨rfl, h3⟩
        · exact .inr ⟨i, rfl, by omega, by omega, h3⟩
      · rintro (⟨rfl, h⟩ | ⟨i, rfl, h1, h2, h3⟩)
        · exact ⟨m, rfl, by omega, by omega, h⟩
        · exact ⟨i, rfl, by omega, by omega, h3⟩
    rw [s, ← ih]
    by_cases h : x.testBit m = true
    · rw [if_pos h]
      simp [h]
    · rw [if_neg h]
      simp [h]
theorem ones_mem {n x : Int} (n0 : 0 ≤ n) (n2 : n ≤ 62) (x0 : 0 ≤ x) (x1 : x < 2 ^ n.toNat) (v : Int) : v ∈ ones x ↔ 0 ≤ v ∧ v < n ∧ tb x v = true := by
  unfold ones
  rw [onesFrom_mem]
  constructor
  · rintro ⟨i, rfl, h1, h2, h3⟩
    have ht : tb x i = true := by rw [tb_toNat x0 (by omega)]; simpa using h3
    refine ⟨by omega, ?_, ht⟩
    by_cases h : (i : Int) < n
    · exact h
    · rw [tb_high x0 x1 n0 (by omega)] at ht
      cases ht
  · rintro ⟨h1, h2, h3⟩
    refine ⟨v.toNat, by omega, by omega, by omega, ?_⟩
    rwa [tb_toNat x0 h1] at h3
theorem onesFrom_length (x : Nat) (d : Nat) : ∀ m, (onesFrom x d m).length ≤ d := by
  induction d with
  | zero => intro m; simp [onesFrom]
  | succ d ih =>
    intro m
    simp only [onesFrom]
    have := ih (m + 1)
    split <;> simp <;> omega
theorem ones_length (x : Int) : (ones x).length ≤ 62 := onesFrom_length _ 62 0
end Go.Proofs.YtkmpkcofddpdgaaDoor.Q
namespace Go.Proofs.YtkmpkcofddpdgaaDoor.Q
open Go Go.RowKit Go.Proofs.YtkmpkcofddpdgaaDoor.P Go.Proofs.YtkmpkcofddpdgaaDoorW.PrintWords Go.Proofs.YtkmpkcofddpdgaaDoorW.PrintMore
def Is (n x : Int) (P : Int → Prop) : Prop := Rw n x ∧ ∀ u, 0 ≤ u → u < n → (tb x u = true ↔ P u)
theorem Is.imp {n x : Int} {P Q : Int → Prop} (h : Is n x P) (e : ∀ u, 0 ≤ u → u < n → (P u ↔ Q u)) : Is n x Q := ⟨h.1, fun u u0 u1 => (h.2 u u0 u1).trans (e u u0 u1)⟩
theorem level_next {n : Int} {l : List Int} {s : Int} {r : List Int} (hr : Dist n l s r) {d S X : Int} (d0 : 0 ≤ d) (hX : Is n X fun u => ∃ w, (0 ≤ w ∧ w < n) ∧ rd r w = d ∧ tb (rd l w) u = true) (u : Int) (u0 : 0 ≤ u) (u1 : u < n) (hS : tb S u = true ↔ 0 ≤ rd r u ∧ rd r u ≤ d) : ((tb S u = true ∨ tb X u = true) ↔ 0 ≤ rd r u ∧ rd r u ≤ d + 1) ∧ ((tb X u = true ∧ ¬ tb S u = true) ↔ rd r u = d + 1) := by
  have a := hr.next d u d0 u0 u1
  rw [hS, hX.2 u u0 u1]
  constructor
  · constructor
    · rintro (z | z)
      · omega
      · by_cases q : 0 ≤ rd r u ∧ rd r u ≤ d
        · omega
        · have := a.2 ⟨z, q⟩
          omega
    · intro z
      by_cases q : 0 ≤ rd r u ∧ rd r u ≤ d
      · exact .inl q
      · exact .inr (a.1 (by omega)).1
  · exact a.symm
section
variable {n : Int} {l : List Int} (h : rows n l) {s : Int} (s0 : 0 ≤ s) (s1 : s < n) {r : List Int} (hr : Dist n l s r)
include h hr
theorem i_distances_l0 (M : Nat) (hM : ∀ u, 0 ≤ u → u < n → rd r u < (M : Int)) (e : Nat) : ∀ (d : Nat) (ds : List Int) (S L : Int), (M : Int) - d = e → (d : Int) ≤ 1000000 → (M : Int) ≤ 1000000 → (ds.length : Int) = n → (∀ u, 0 ≤ u → u < n → rd ds u = if 0 ≤ rd r u ∧ rd r u < d then rd r u else -1) → Is n S (fun u => 0 ≤ rd r u ∧ rd r u ≤ d) → Is n L (fun u => rd r u = d) → Ev (fun k => impl_Graph_distances.l0 k ds S L d n l) r := by
  have n2 := h.2.1
  have hl := h.2.2.1
  have n0 : 0 ≤ n := by have := h.1; omega
  have stop : ∀ (d : Nat) (ds : List Int) (S : Int), (ds.length : Int) = n → (∀ u, 0 ≤ u → u < n → rd ds u = if 0 ≤ rd r u ∧ rd r u < d then rd r u else -1) → (∀ u, 0 ≤ u → u < n → rd r u ≠ d) → Ev (fun k => impl_Graph_distances.l0 k ds S 0 d n l) r := by
    intro d ds S hlen hds hno
    have : ds = r := by
      refine rd_ext (by have := hr.len; omega) fun u u0 u1 => ?_
      have u1 : u < n := by omega
      rw [hds u u0 u1]
      have a := hr.stops d (by omega) hno u u0 u1
      have b := hr.low u u0 u1
      split <;> omega
    subst this
    refine ev_k ?_
    simp only [impl_Graph_distances.l0]
    exact ev_pos trivial (Ev.now _)
  induction e with
  | zero =>
    intro d ds S L he hd hM2 hlen hds hS hL
    have hno : ∀ u, 0 ≤ u → u < n → rd r u ≠ d := fun u u0 u1 => by have := hM u u0 u1; omega
    have : L = 0 := (hL.1.eq_zero n0).2 fun w w0 w1 z => hno w w0 w1 ((hL.2 w w0 w1).1 z)
    subst this
    exact stop d ds S hlen hds hno
  | succ e ih =>
    intro d ds S L he hd hM2 hlen hds hS hL
    by_cases hz : L = 0
    · subst hz
      exact stop d ds S hlen hds fun u u0 u1 z => (hL.1.eq_zero n0).1 rfl u u0 u1 ((hL.2 u u0 u1).2 z)
    · have hp := two_pow_le (n := n) n0 n2
      have inner : ∀ (ws pre ds : List Int) (X : Int), pre ++ ws = ones L → (ds.length : Int) = n → (∀ u, 0 ≤ u → u < n → rd ds u = if (0 ≤ rd r u ∧ rd r u < d) ∨ u ∈ pre then rd r u else -1) → Is n X (fun u => ∃ w, w ∈ pre ∧ tb (rd l w) u = true) → Ev (fun k => impl_Graph_distances.l1 k ds S d X (ones L) (ones L).length pre.length n l) r := by
        intro ws
        have ol := ones_length L
        have om := fun v => ones_mem n0 n2 hL.1.1 hL.1.2 v
        induction ws with
        | nil =>
          intro pre ds X hpre hlen hds hX
          rw [List.append_nil] at hpre
          subst hpre
          have hX2 : Is n X fun u => ∃ w, (0 ≤ w ∧ w < n) ∧ rd r w = d ∧ tb (rd l w) u = true := hX.imp fun u u0 u1 => by
            constructor
            · rintro ⟨w, hw, ht⟩
              obtain ⟨a, b, c⟩ := (om w).1 hw
              exact ⟨w, ⟨a, b⟩, (hL.2 w a b).1 c, ht⟩
            · rintro ⟨w, ⟨a, b⟩, c, ht⟩
              exact ⟨w, (om w).2 ⟨a, b, (hL.2 w a b).2 c⟩, ht⟩
          have o := or_rw n2 hS.1 hX.1
          have q := andNot_rw n2 hX.1 hS.1
          refine ev_k ?_
          simp only [impl_Graph_distances.l1]
          refine ev_neg (by omega) ?_
          rw [w64 (a := (d : Int) + 1) (by omega) (by omega)]
          refine ih (d + 1) ds _ _ (by omega) (by omega) hM2 hlen (fun u u0 u1 => ?_) ⟨o.1, fun u u0 u1 => ?_⟩ ⟨q.1, fun u u0 u1 => ?_⟩
          · rw [hds u u0 u1]
            have z : u ∈ ones L ↔ rd r u = d := (om u).trans ⟨fun z => (hL.2 u u0 u1).1 z.2.2, fun z => ⟨u0, u1, (hL.2 u u0 u1).2 z⟩⟩
            by_cases q : u ∈ ones L
            · have := z.1 q
              rw [if_pos (.inr q), if_pos (by omega)]
            · have q2 : rd r u ≠ d := fun e => q (z.2 e)
              by_cases p : 0 ≤ rd r u ∧ rd r u < d
              · rw [if_pos (.inl p), if_pos (by omega)]
              · rw [if_neg (by rintro (a | a); exact p a; exact q a), if_neg (by omega)]
          · rw [o.2 u u0]
            exact ((level_next hr (by omega) hX2 u u0 u1 (hS.2 u u0 u1)).1).trans (by omega)
          · rw [q.2 u u0]
            exact ((level_next hr (by omega) hX2 u u0 u1 (hS.2 u u0 u1)).2).trans (by omega)
        | cons w ws ihw =>
          intro pre ds X hpre hlen hds hX
          have hlt : pre.length < (ones L).length := by rw [← hpre]; simp
          have hw : rd (ones L) pre.length = w := by
            rw [← hpre]
            simp [rd, List.getD_eq_getElem?_getD]
          obtain ⟨w0, w1, wt⟩ := (om w).1 (by rw [← hpre]; simp)
          have hwd := (hL.2 w w0 w1).1 wt
          have o := or_rw n2 hX.1 (h.2.2.2 w w0 w1)
          refine ev_k ?_
          simp only [impl_Graph_distances.l1, hw]
          refine ev_pos (by omega) (ev_pos (by omega) (ev_pos (by omega) (ev_pos w0 (ev_pos (by omega) (ev_pos (by omega) ?_)))))
          rw [w64 (a := (pre.length : Int) + 1) (by omega) (by omega)]
          have := ihw (pre ++ [w]) (ds.set w.toNat d) (bits .or .i64 X (rd l w)) (by rw [← hpre]; simp) (by simpa using hlen) (fun u u0 u1 => ?_) ⟨o.1, fun u u0 u1 => ?_⟩
          · simpa using this
          · rw [rd_set _ w0 (by omega) u0]
            by_cases e : u = w
            · subst e
              rw [if_pos rfl, if_pos (.inr (by simp)), hwd]
            · rw [if_neg e, hds u u0 u1]
              simp [e]
          · rw [o.2 u u0, hX.2 u u0 u1]
            constructor
            · rintro (⟨x, hx, ht⟩ | ht)
              · exact ⟨x, by simp [hx], ht⟩
              · exact ⟨w, by simp, ht⟩
            · rintro ⟨x, hx, ht⟩
              rcases List.mem_append.1 hx with hx | hx
              · exact .inl ⟨x, hx, ht⟩
              · obtain rfl : x = w := by simpa using hx
                exact .inr ht
      refine ev_k ?_
      simp only [impl_Graph_distances.l0]
      refine ev_neg hz (Ev.bind (i_list hL.1.1 (by have := hL.1.2; omega)) ?_)
      have := inner (ones L) [] ds 0 (by simp) hlen (fun u u0 u1 => by rw [hds u u0 u1]; simp) ⟨(zero_rw n).1, fun u u0 u1 => ⟨fun z => absurd z ((zero_rw n).2 u), fun ⟨w, hw, _⟩ => by cases hw⟩⟩
      simpa using this
include s0 s1
theorem i_distances : Ev (fun k => impl_Graph_distances.f k n l s) r := by
  have n2 := h.2.1
  have n0 : 0 ≤ n := by have := h.1; omega
  have hb : ∀ u, 0 ≤ u → u < n → rd r u < 1000000 := fun u u0 u1 => by have := hr.small u u0 u1; omega
  obtain ⟨o1, o2⟩ := one_rw n2 s0 s1
  unfold impl_Graph_distances.f
  refine ev_bind0 (a := List.replicate n.toNat (-1)) ?_ (ev_pos s0 ?_)
  · unfold slices_Repeat_int64_int64.f
    rw [if_pos (show ([-1] : List Int).length = 1 from rfl), if_pos n0, if_pos (by omega)]
    rfl
  · refine i_distances_l0 h hr 1000000 hb 1000000 0 _ _ _ (by omega) (by omega) (by omega) (by simp; omega) (fun u u0 u1 => ?_) ⟨o1, fun u u0 u1 => ?_⟩ ⟨o1, fun u u0 u1 => ?_⟩
    · have : u.toNat < n.toNat := by omega
      rw [if_neg (by omega)]
      simp [rd, List.getD_eq_getElem?_getD, this]
    · rw [o2 u u0, ← hr.src u u0 u1]
      omega
    · rw [o2 u u0, ← hr.src u u0 u1]
      omega
end
end Go.Proofs.YtkmpkcofddpdgaaDoor.Q
namespace Go.Proofs.YtkmpkcofddpdgaaDoor.Q
open Go Go.RowKit Go.Proofs.YtkmpkcofddpdgaaDoor.P Go.Proofs.YtkmpkcofddpdgaaDoorW.PrintWords Go.Proofs.YtkmpkcofddpdgaaDoorW.PrintMore
def IsMax (r : List Int) (m : Int) : Prop := (∀ j : Int, 0 ≤ j → j < r.length → rd r j ≤ m) ∧ ∃ j : Int, 0 ≤ j ∧ j < r.length ∧ m = rd r j
theorem IsMax.uniq {r : List Int} {a b : Int} (ha : IsMax r a) (hb : IsMax r b) : a = b := by
  obtain ⟨a1, i, i0, i1, ia⟩ := ha
  obtain ⟨b1, j, j0, j1, jb⟩ := hb
  have := a1 j j0 j1
  have := b1 i i0 i1
  omega
open Classical in
noncomputable def top (r : List Int) : Int := if h : ∃ m, IsMax r m then h.choose else 0
theorem top_eq {r : List Int} {m : Int} (h : IsMax r m) : top r = m := by
  have hex : ∃ m, IsMax r m := ⟨m, h⟩
  unfold top
  rw [dif_pos hex]
  exact hex.choose_spec.uniq h
theorem r_max_l0 (l : List Int) (hl : l.length ≤ 1152921504606846976) (d : Nat) : ∀ (m i : Int), 0 ≤ i → i ≤ l.length → l.length - i = d → ∃ r, Ev (fun k => slices_Max_int64_int64.l0 k l m i) r ∧ m ≤ r ∧ (∀ j : Int, i ≤ j → j < l.length → rd l j ≤ r) ∧ (r = m ∨ ∃ j : Int, i ≤ j ∧ j < l.length ∧ r = rd l j) := by
  induction d with
  | zero =>
    intro m i i0 i1 hd
    refine ⟨m, ev_k ?_, by omega, fun j _ _ => by omega, .inl rfl⟩
    simp only [slices_Max_int64_int64.l0]
    exact ev_neg (by omega) (Ev.now _)
  | succ d ih =>
    intro m i i0 i1 hd
    obtain ⟨r, hr, r1, r2, r3⟩ := ih (mx m (rd l i)) (i + 1) (by omega) (by omega) (by omega)
    have e : m ≤ mx m (rd l i) ∧ rd l i ≤ mx m (rd l i) ∧ (mx m (rd l i) = m ∨ mx m (rd l i) = rd l i) := by
      unfold mx
      split <;> omega
    refine ⟨r, ev_k ?_, by omega, fun j j0 j1 => if h : j = i then by rw [h]; omega else r2 j (by omega) j1, ?_⟩
    · simp only [slices_Max_int64_int64.l0]
      rw [w64 (a := i + 1) (by omega) (by omega)]
      exact ev_pos (by omega) (ev_pos i0 hr)
    · rcases r3 with h | ⟨j, j0, j1, h⟩
      · rcases e.2.2 with e | e
        · exact .inl (h.trans e)
        · exact .inr ⟨i, by omega, by omega, h.trans e⟩
      · exact .inr ⟨j, by omega, j1, h⟩
theorem r_max (l : List Int) (hl : l.length ≤ 1152921504606846976) (h0 : 0 < l.length) : ∃ r, Ev (fun k => slices_Max_int64_int64.f k l) r ∧ IsMax l r := by
  obtain ⟨r, hr, r1, r2, r3⟩ := r_max_l0 l hl (l.length - 1) (rd l 0) 1 (by omega) (by omega) (by omega)
  refine ⟨r, ?_, fun j j0 j1 => if h : j = 0 then by rw [h]; exact r1 else r2 j (by omega) j1, ?_⟩
  · unfold slices_Max_int64_int64.f
    exact ev_neg (by omega) (ev_pos (by omega) hr)
  · rcases r3 with h | ⟨j, j0, j1, h⟩
    · exact ⟨0, by omega, by omega, h⟩
    · exact ⟨j, by omega, j1, h⟩
end Go.Proofs.YtkmpkcofddpdgaaDoor.Q
namespace Go.Proofs.YtkmpkcofddpdgaaDoor.Q
open Go Go.RowKit Go.Proofs.YtkmpkcofddpdgaaDoor.P Go.Proofs.YtkmpkcofddpdgaaDoorW.PrintWords Go.Proofs.YtkmpkcofddpdgaaDoorW.PrintMore
def Cut (n : Int) (r : List Int) : Prop := ∃ u, (0 ≤ u ∧ u < n) ∧ rd r u = -1
open Classical in
noncomputable def reach (n : Int) (l : List Int) : Nat → Int → Int → Int
  | 0, _, acc => acc
  | d + 1, v, acc => if Cut n (dist n l v) then -1 else reach n l d (v + 1) (mx acc (top (dist n l v)))
section
variable {n : Int} {l : List Int} (h : rows n l)
include h
theorem i_diameter : Ev (fun k => impl_Digraph_diameter.f k n l) (reach n l n.toNat 0 0) := by
  have n1 := h.1
  have n2 := h.2.1
  have loop : ∀ (d : Nat) (v acc : Int), 0 ≤ v → v ≤ n → n - v = d → Ev (fun k => impl_Digraph_diameter.l0 k acc n v n l) (reach n l d v acc) := by
    intro d
    induction d with
    | zero =>
      intro v acc v0 v1 hd
      refine ev_k ?_
      simp only [impl_Digraph_diameter.l0]
      exact ev_neg (by omega) (Ev.now _)
    | succ d ih =>
      intro v acc v0 v1 hd
      have hdist := dist_of n l v (by omega)
      have hlen := hdist.len
      obtain ⟨b, hb, be⟩ := r_contains (dist n l v) (by omega) (-1)
      obtain ⟨m, hm, hmax⟩ := r_max (dist n l v) (by omega) (by omega)
      have hc : b = true ↔ Cut n (dist n l v) := be.trans ⟨fun ⟨j, a, c, e⟩ => ⟨j, by omega, e⟩, fun ⟨u, a, e⟩ => ⟨u, by omega, by omega, e⟩⟩
      refine ev_k ?_
      simp only [impl_Digraph_diameter.l0, reach]
      refine ev_pos (by omega) (Ev.bind (i_distances h v0 (by omega) hdist) (Ev.bind hb ?_))
      by_cases z : b = true
      · rw [if_pos (hc.1 z)]
        exact ev_pos z (Ev.now _)
      · rw [if_neg (fun y => z (hc.2 y)), top_eq hmax]
        refine ev_neg z (Ev.bind hm ?_)
        rw [w64 (a := v + 1) (by omega) (by omega)]
        exact ih (v + 1) _ (by omega) (by omega) (by omega)
  unfold impl_Digraph_diameter.f
  exact loop n.toNat 0 0 (by omega) (by omega) (by omega)
theorem s_reach_l2 {s : Int} {r : List Int} (hr : Dist n l s r) (acc : Int) {R : Int} (hcut : Cut n r → R = -1) (hgo : ∀ m, ¬ Cut n r → IsMax r m → Ev (fun k => spec_l08Reach.l0 k (mx acc m) (wrap64 (s + 1)) n l) R) (e : Nat) : ∀ (i : Int) (ds q : List Int), n - i = e → QI n l s r ds q i → Ev (fun k => spec_l08Reach.l2 k acc s ds q i n l) R := by
  have n1 := h.1
  have n2 := h.2.1
  have hl := h.2.2.1
  have stop : ∀ (i : Int) (ds q : List Int), QI n l s r ds q i → ¬ i < q.length → Ev (fun k => spec_l08Reach.l2 k acc s ds q i n l) R := by
    intro i ds q hq hi
    obtain rfl := hq.done hr hi
    have hcnt := hq.cnt
    have hlen := hq.len
    have hmem := hq.src
    have qpos : 0 < q.length := List.length_pos_of_mem hmem
    refine ev_k ?_
    simp only [spec_l08Reach.l2]
    refine ev_neg hi ?_
    by_cases hc : (q.length : Int) < n
    · have : 0 < ds.count (-1) := by omega
      obtain ⟨j, hj, hje⟩ := mem_rd (List.count_pos_iff.1 this)
      rw [hcut ⟨j, by omega, hje⟩]
      exact ev_pos hc (Ev.now _)
    · have hz : ds.count (-1) = 0 := by omega
      have hnc : ¬ Cut n ds := by
        rintro ⟨u, hu, e⟩
        have : -1 ∈ ds := by rw [← e]; exact rd_mem hu.1 (by omega)
        have := List.count_pos_iff.2 this
        omega
      obtain ⟨hw, hwd, hw0⟩ := hq.at_ (a := (q.length : Int) - 1) (by omega) (by omega)
      refine ev_neg hc ?_
      rw [w64 (a := (q.length : Int) - 1) (by omega) (by omega)]
      refine ev_pos (by omega) (ev_pos (by omega) (ev_pos hw.1 (ev_pos (by omega) ?_)))
      refine hgo _ hnc ⟨fun j j0 j1 => ?_, _, hw.1, by omega, rfl⟩
      have lj := hr.low j j0 (by omega)
      have : rd ds j ≠ -1 := fun e => hnc ⟨j, by omega, e⟩
      obtain ⟨a, ha, hae⟩ := mem_rd ((hq.mem j).2 ⟨by omega, by omega⟩)
      rw [← hae]
      exact hq.mono a _ ha.1 (by omega) (by omega)
  induction e with
  | zero =>
    intro i ds q he hq
    exact stop i ds q hq (by have := hq.cnt; omega)
  | succ e ih =>
    intro i ds q he hq
    by_cases hi : i < q.length
    · have i0 := hq.at0.1
      have inner : ∀ (c : Nat) (u : Int) (ds q : List Int), QI n l s r ds q i → i < q.length → 0 ≤ u → u ≤ n → n - u = c → (∀ v, 0 ≤ v → v < u → tb (rd l (rd q i)) v = true → 0 ≤ rd ds v) → Ev (fun k => spec_l08Reach.l3 k acc s ds q i u n l) R := by
        intro c
        induction c with
        | zero =>
          intro u ds q hq hi u0 u1 hc hp
          refine ev_k ?_
          simp only [spec_l08Reach.l3]
          rw [w64 (a := i + 1) (by have := hq.cnt; omega) (by have := hq.cnt; omega)]
          exact ev_neg (by omega) (ih (i + 1) ds q (by omega) (hq.step hr hi fun v v0 v1 tv => hp v v0 (by omega) tv))
        | succ c ihc =>
          intro u ds q hq hi u0 u1 hc hp
          obtain ⟨hwr, hwd, hw0⟩ := hq.head hi
          have hlen := hq.len
          have hcnt := hq.cnt
          have hh := d_has n l (rd q i) u hwr.1 (by omega) u0 (by omega)
          refine ev_k ?_
          simp only [spec_l08Reach.l3, hh, Option.bind_some]
          rw [w64 (a := u + 1) (by omega) (by omega)]
          refine ev_pos (by omega) (ev_pos i0 (ev_pos hi ?_))
          by_cases ht : tb (rd l (rd q i)) u = true
          · refine ev_pos ht (ev_pos u0 (ev_pos (by omega) ?_))
            by_cases hu : rd ds u < 0
            · refine ev_pos hu (ev_pos hwr.1 (ev_pos (by omega) (ev_pos (by omega) ?_)))
              obtain ⟨e2, hq2⟩ := hq.add hr hi u0 (by omega) ht hu
              have hsm := hr.small (rd q i) hwr.1 hwr.2
              rw [hwd, w64 (a := rd r (rd q i) + 1) (by omega) (by omega), ← e2]
              refine ihc (u + 1) _ _ hq2 (by simp; omega) (by omega) (by omega) (by omega) fun v v0 v1 tv => ?_
              rw [rd_app_left i0 hi] at tv
              rw [rd_set _ u0 (by omega) v0]
              by_cases z : v = u
              · rw [if_pos z]
                omega
              · rw [if_neg z]
                exact hp v v0 (by omega) tv
            · refine ev_neg hu (ihc (u + 1) ds q hq hi (by omega) (by omega) (by omega) fun v v0 v1 tv => ?_)
              by_cases z : v = u
              · rw [z]; omega
              · exact hp v v0 (by omega) tv
          · refine ev_neg ht (ihc (u + 1) ds q hq hi (by omega) (by omega) (by omega) fun v v0 v1 tv => ?_)
            by_cases z : v = u
            · rw [z] at tv
              exact absurd tv ht
            · exact hp v v0 (by omega) tv
      refine ev_k ?_
      simp only [spec_l08Reach.l2]
      exact ev_pos hi (inner n.toNat 0 ds q hq hi (by omega) (by omega) (by omega) fun v v0 v1 => by omega)
    · exact stop i ds q hq hi
theorem s_reach : Ev (fun k => spec_l08Reach.f k n l) (reach n l n.toNat 0 0) := by
  have n1 := h.1
  have n2 := h.2.1
  have loop : ∀ (d : Nat) (v acc : Int), 0 ≤ v → v ≤ n → n - v = d → Ev (fun k => spec_l08Reach.l0 k acc v n l) (reach n l d v acc) := by
    intro d
    induction d with
    | zero =>
      intro v acc v0 v1 hd
      refine ev_k ?_
      simp only [spec_l08Reach.l0]
      exact ev_neg (by omega) (Ev.now _)
    | succ d ih =>
      intro v acc v0 v1 hd
      have hdist := dist_of n l v (by omega)
      have l2 := s_reach_l2 h hdist acc (R := reach n l (d + 1) v acc) (fun z => by simp only [reach]; rw [if_pos z]) (fun m z hm => by
        simp only [reach]
        rw [if_neg z, top_eq hm, w64 (a := v + 1) (by omega) (by omega)]
        exact ih (v + 1) _ (by omega) (by omega) (by omega)) n.toNat 0 _ _ (by omega) (QI.start hdist v0 (by omega))
      have fill : ∀ (e : Nat) (i : Nat) (ds : List Int), (i : Int) ≤ n → n - i = e → (ds.length : Int) = n → (∀ u : Int, 0 ≤ u → u < i → rd ds u = -1) → Ev (fun k => spec_l08Reach.l1 k acc v ds [v] i n l) (reach n l (d + 1) v acc) := by
        intro e
        induction e with
        | zero =>
          intro i ds h1 he hlen hds
          have : ds = List.replicate n.toNat (-1) := by
            refine rd_ext (by simp; omega) fun u u0 u1 => ?_
            rw [hds u u0 (by omega)]
            have : u.toNat < n.toNat := by omega
            simp [rd, List.getD_eq_getElem?_getD, this]
          subst this
          refine ev_k ?_
          simp only [spec_l08Reach.l1]
          exact ev_neg (by omega) (ev_pos v0 (ev_pos (by omega) l2))
        | succ e ihe =>
          intro i ds h1 he hlen hds
          have := ihe (i + 1) (ds.set i (-1)) (by omega) (by omega) (by simpa using hlen) fun u u0 u1 => by
            have := rd_set (l := ds) (i := (i : Int)) (j := u) (-1) (by omega) (by omega) u0
            rw [Int.toNat_natCast] at this
            rw [this]
            by_cases z : u = i
            · rw [if_pos z]
            · rw [if_neg z]
              exact hds u u0 (by omega)
          refine ev_k ?_
          simp only [spec_l08Reach.l1]
          refine ev_pos (by omega) (ev_pos (by omega) ?_)
          rw [w64 (a := (i : Int) + 1) (by omega) (by omega), Int.toNat_natCast]
          exact this
      refine ev_k ?_
      simp only [spec_l08Reach.l0]
      refine ev_pos (by omega) (ev_pos (by omega) (ev_pos (by omega) ?_))
      exact fill n.toNat 0 _ (by omega) (by omega) (by simp; omega) fun u u0 u1 => by omega
  unfold spec_l08Reach.f
  exact loop n.toNat 0 0 (by omega) (by omega) (by omega)
end
end Go.Proofs.YtkmpkcofddpdgaaDoor.Q
namespace Go.Proofs.YtkmpkcofddpdgaaDoor.Q
open Go Go.RowKit Go.Proofs.YtkmpkcofddpdgaaDoor.P Go.Proofs.YtkmpkcofddpdgaaDoorW.PrintWords Go.Proofs.YtkmpkcofddpdgaaDoorW.PrintLast Go.Proofs.YtkmpkcofddpdgaaDoorW.PrintMore
theorem b_mn_le (a b : Int) : mn a b ≤ b := by unfold mn; split <;> omega
theorem b_mn_ge {a b c : Int} (h : c ≤ a) (h' : c ≤ b) : c ≤ mn a b := by unfold mn; split <;> omega
theorem sums_l0 (b n : Int) (hb0 : 0 ≤ b) (hb1 : b ≤ 100) (hn : n ≤ 1000000) (d : Nat) : ∀ (all now i : Int), 0 ≤ i → n - i ≤ d → 0 ≤ all → all ≤ 1000000000001 → 0 ≤ now → now ≤ 1000000000001 →
    ∃ r, (0 ≤ r ∧ r ≤ 1000000000001) ∧ Ev (fun k => spec_l02Sum.l0 k (b + 1) n all now i) r ∧ Ev (fun k => impl_powers.l0 k b all now n i) r := by
  induction d with
  | zero =>
    intro all now i h0 hd a0 a1 _ _
    refine ⟨all, ⟨a0, a1⟩, ev_k ?_, ev_k ?_⟩
    · simp only [spec_l02Sum.l0]
      exact ev_neg (by omega) (Ev.now _)
    · simp only [impl_powers.l0]
      exact ev_neg (by omega) (Ev.now _)
  | succ d ih =>
    intro all now i h0 hd ha0 ha1 hn0 hn1
    by_cases h : i < n
    · have hp : 0 ≤ now * b := Int.mul_nonneg hn0 hb0
      have hq : now * b ≤ 1000000000001 * 100 := Int.mul_le_mul hn1 hb1 hb0 (by omega)
      have e1 : wrap64 (all + now) = all + now := w64 (by omega) (by omega)
      have e2 : wrap64 (now * b) = now * b := w64 (by omega) (by omega)
      have e3 : wrap64 (i + 1) = i + 1 := w64 (by omega) (by omega)
      have e4 : wrap64 (b + 1 - 1) = b := by rw [w64 (by omega) (by omega)]; omega
      obtain ⟨r, hr, hs, hi⟩ := ih (mn (all + now) 1000000000001) (mn (now * b) 1000000000001) (i + 1) (by omega) (by omega)
        (b_mn_ge (by omega) (by omega)) (b_mn_le _ _) (b_mn_ge hp (by omega)) (b_mn_le _ _)
      refine ⟨r, hr, ev_k ?_, ev_k ?_⟩
      · simp only [spec_l02Sum.l0]
        refine ev_pos h ?_
        rw [e1, e4, e2, e3]
        exact hs
      · simp only [impl_powers.l0]
        refine ev_pos h ?_
        rw [e1, e2, e3]
        exact hi
    · refine ⟨all, ⟨ha0, ha1⟩, ev_k ?_, ev_k ?_⟩
      · simp only [spec_l02Sum.l0]
        exact ev_neg h (Ev.now _)
      · simp only [impl_powers.l0]
        exact ev_neg h (Ev.now _)
theorem sums_of (b n : Int) (hb0 : 0 ≤ b) (hb1 : b ≤ 100) (hn : n ≤ 1000000) : ∃ r, (0 ≤ r ∧ r ≤ 1000000000001) ∧ Ev (fun k => spec_l02Sum.f k (b + 1) n) r ∧ Ev (fun k => impl_powers.f k b n) r := by
  obtain ⟨r, hr, hs, hi⟩ := sums_l0 b n hb0 hb1 hn n.toNat 0 1 0 (by omega) (by omega) (by omega) (by omega) (by omega) (by omega)
  exact ⟨r, hr, by unfold spec_l02Sum.f; exact hs, by unfold impl_powers.f; exact hi⟩
end Go.Proofs.YtkmpkcofddpdgaaDoor.Q
namespace Go.Proofs.YtkmpkcofddpdgaaDoor.Q
open Go Go.RowKit Go.Proofs.YtkmpkcofddpdgaaDoor.P Go.Proofs.YtkmpkcofddpdgaaDoorW.PrintWords Go.Proofs.YtkmpkcofddpdgaaDoorW.PrintMore
theorem rd_at (l : List Int) (i : Int) (h1 : i.toNat < l.length) : rd l i = l[i.toNat] := by
  simp [rd, List.getD_eq_getElem?_getD, List.getElem?_eq_getElem h1]
theorem toS_l0 (l : List Int) (hl : l.length < 9223372036854775807) (d : Nat) : ∀ (m : List Int) (i : Int), 0 ≤ i → i ≤ l.length → l.length - i = d → m.length = l.length → (∀ j, j < i.toNat → m[j]? = l[j]?) →
    Ev (fun k => laws_toInt64S.l0 k l m i) l := by
  induction d with
  | zero =>
    intro m i h0 h1 hd hm hj
    refine ev_k ?_
    simp only [laws_toInt64S.l0]
    refine ev_neg (by omega) (ev_some (List.ext_getElem? fun j => ?_))
    by_cases h : j < i.toNat
    · exact hj j h
    · rw [List.getElem?_eq_none (by omega), List.getElem?_eq_none (by omega)]
  | succ d ih =>
    intro m i h0 h1 hd hm hj
    refine ev_k ?_
    simp only [laws_toInt64S.l0]
    refine ev_pos (by omega) (ev_pos h0 (ev_pos (by omega) ?_))
    rw [w64 (a := i + 1) (by omega) (by omega)]
    refine ih _ (i + 1) (by omega) (by omega) (by omega) (by simpa using hm) fun j h => ?_
    rw [List.getElem?_set]
    split
    · subst_vars
      rw [if_pos (by omega), rd_at l i (by omega), List.getElem?_eq_getElem]
    · exact hj j (by omega)
theorem toS (l : List Int) (hl : l.length ≤ 35184372088832) : Ev (fun k => laws_toInt64S.f k l) l := by
  unfold laws_toInt64S.f
  refine ev_pos (by omega) (ev_pos (by omega) ?_)
  exact toS_l0 l (by omega) l.length _ 0 (by omega) (by omega) (by omega) (by simp) (fun j h => by simp at h)
theorem eqS_l0 (l m : List Int) (e : l.length = m.length) (hl : l.length < 9223372036854775807) (d : Nat) : ∀ (i : Int), 0 ≤ i → i ≤ l.length → l.length - i = d →
    Ev (fun k => laws_eqInt64S.l0 k l m i) (decide (l.drop i.toNat = m.drop i.toNat)) := by
  have dc : ∀ (l : List Int) (i : Int), 0 ≤ i → i < l.length → l.drop i.toNat = rd l i :: l.drop (i + 1).toNat := fun l i h0 h1 => by
    rw [List.drop_eq_getElem_cons (by omega : i.toNat < l.length), show (i + 1).toNat = i.toNat + 1 by omega, rd_at l i (by omega)]
  induction d with
  | zero =>
    intro i h0 h1 hd
    refine ev_k ?_
    simp only [laws_eqInt64S.l0]
    refine ev_neg (by omega) (ev_some ?_)
    rw [List.drop_of_length_le (by omega), List.drop_of_length_le (by omega)]
    rfl
  | succ d ih =>
    intro i h0 h1 hd
    refine ev_k ?_
    simp only [laws_eqInt64S.l0]
    refine ev_pos (by omega) (ev_pos h0 (ev_pos (by omega) ?_))
    rw [w64 (a := i + 1) (by omega) (by omega), dc l i h0 (by omega), dc m i h0 (by omega)]
    by_cases h : rd l i = rd m i
    · refine ev_pos h ?_
      simp only [List.cons.injEq, h, true_and]
      exact ih (i + 1) (by omega) (by omega) (by omega)
    · refine ev_neg h (ev_some ?_)
      simp [h]
theorem eqS (l m : List Int) (hl : l.length < 9223372036854775807) : Ev (fun k => laws_eqInt64S.f k l m) (decide (l = m)) := by
  unfold laws_eqInt64S.f
  by_cases e : l.length = m.length
  · refine ev_pos (by omega) ?_
    simpa using eqS_l0 l m e hl l.length 0 (by omega) (by omega) (by omega)
  · refine ev_neg (by omega) (ev_some ?_)
    exact (decide_eq_false fun h => e (by rw [h])).symm
theorem eqS_self (l : List Int) (hl : l.length < 9223372036854775807) : Ev (fun k => laws_eqInt64S.f k l l) true := by
  simpa using eqS l l hl
theorem szS (l : List Int) (hl : l.length ≤ maxLen) : laws_szInt64S.f l 1048576 = some (if l.length ≤ 1048576 then 1048576 - (l.length : Int) else -1) := by
  unfold maxLen at hl
  unfold laws_szInt64S.f
  rw [w64 (by omega) (by omega)]
  by_cases h : l.length ≤ 1048576
  · rw [if_neg (by omega), if_pos h]
  · rw [if_pos (by omega), if_neg h]
end Go.Proofs.YtkmpkcofddpdgaaDoor.Q
namespace Go.Proofs.YtkmpkcofddpdgaaDoor.Q
open Go Go.RowKit Go.Proofs.YtkmpkcofddpdgaaDoor.P Go.Proofs.YtkmpkcofddpdgaaDoorW.PrintWords Go.Proofs.YtkmpkcofddpdgaaDoorW.PrintMore
theorem szD (n : Int) (l : List Int) (hl : l.length ≤ maxLen) : laws_szDigraph.f n l 1048576 = some (if l.length ≤ 1048576 then 1048576 - (l.length : Int) else -1) := by
  unfold laws_szDigraph.f
  rw [szS l hl]
  simp only [Option.bind_some]
  by_cases h : l.length ≤ 1048576
  · rw [if_pos h, if_neg (by omega)]
  · rw [if_neg h, if_pos (by decide)]
theorem toD (n : Int) (l : List Int) (hl : l.length ≤ 1048576) : Ev (fun m => laws_toDigraph.f m n l) (n, l) := by
  unfold laws_toDigraph.f
  exact Ev.bind (toS l (by omega)) (Ev.now _)
theorem eqD (n : Int) (l : List Int) (hl : l.length ≤ 1048576) : Ev (fun m => laws_eqDigraph.f m n l n l) true := by
  unfold laws_eqDigraph.f
  exact ev_pos rfl (Ev.bind (eqS_self l (by omega)) (ev_pos rfl (Ev.now _)))
end Go.Proofs.YtkmpkcofddpdgaaDoor.Q
namespace Go.Proofs.YtkmpkcofddpdgaaDoor.Pure
open Go Go.RowKit Go.Proofs.YtkmpkcofddpdgaaDoor.P Go.Proofs.YtkmpkcofddpdgaaDoorW.PrintWords Go.Proofs.YtkmpkcofddpdgaaDoorW.PrintLast Go.Proofs.YtkmpkcofddpdgaaDoorW.PrintMore Go.Proofs.YtkmpkcofddpdgaaDoor.Q
theorem reach_le {n : Int} {l : List Int} (n2 : n ≤ 62) (d : Nat) : ∀ (v acc : Int), 0 ≤ v → v ≤ n → n - v = d → acc ≤ 62 → reach n l d v acc ≤ 62 := by
  induction d with
  | zero => intro v acc _ _ _ h; exact h
  | succ d ih =>
    intro v acc v0 v1 hd h
    simp only [reach]
    split
    · omega
    · refine ih (v + 1) _ (by omega) (by omega) (by omega) ?_
      have hdist := dist_of n l v (by omega)
      have hlen := hdist.len
      obtain ⟨m, _, hm⟩ := r_max (dist n l v) (by omega) (by omega)
      rw [top_eq hm]
      obtain ⟨_, j, j0, j1, e⟩ := hm
      have := hdist.small j j0 (by omega)
      unfold mx
      split <;> omega
theorem both (n : Int) (l : List Int) : ∃ b c, Ev (fun k => spec_IsMooreDigraph.f k n l) (b, c) ∧ Ev (fun k => impl_IsMooreDigraph.f k n l) (b, c) := by
  unfold spec_IsMooreDigraph.f impl_IsMooreDigraph.f
  by_cases hg : rows n l
  · have n1 := hg.1
    have n2 := hg.2.1
    obtain ⟨g, hg64, hs, hi⟩ := degreesD hg
    have hr := reach_le (l := l) n2 n.toNat 0 0 (by omega) (by omega) (by omega) (by omega)
    by_cases z1 : g ≥ 1
    · by_cases z2 : reach n l n.toNat 0 0 ≥ 1
      · obtain ⟨q, hq, hq1, hq2⟩ := sums_of g (reach n l n.toNat 0 0 + 1) (by omega) (by omega) (by omega)
        refine ⟨decide (n = q), 0, Ev.bind ((s_di n l).yes hg) (ev_pos rfl (Ev.bind hs (Ev.bind (s_reach hg) (ev_pos z1 (ev_pos z2 ?_))))), ev_bind0 (i_di_yes hg) (ev_pos rfl (Ev.bind hi (Ev.bind (i_diameter hg) (ev_pos z1 (ev_pos z2 ?_)))))⟩
        · rw [w64 (a := g + 1) (by omega) (by omega), w64 (a := reach n l n.toNat 0 0 + 1) (by omega) (by omega)]
          exact Ev.bind hq1 (ev_some (by rfl))
        · rw [w64 (a := reach n l n.toNat 0 0 + 1) (by omega) (by omega)]
          refine Ev.bind hq2 (ev_some ?_)
          have : (q == n) = decide (n = q) := by
            rw [Bool.eq_iff_iff, beq_iff_eq, decide_eq_true_iff]
            exact eq_comm
          rw [this]
      · exact ⟨false, 0, Ev.bind ((s_di n l).yes hg) (ev_pos rfl (Ev.bind hs (Ev.bind (s_reach hg) (ev_pos z1 (ev_neg z2 (Ev.now _)))))), ev_bind0 (i_di_yes hg) (ev_pos rfl (Ev.bind hi (Ev.bind (i_diameter hg) (ev_pos z1 (ev_neg z2 (Ev.now _))))))⟩
    · exact ⟨false, 0, Ev.bind ((s_di n l).yes hg) (ev_pos rfl (Ev.bind hs (Ev.bind (s_reach hg) (ev_neg z1 (Ev.now _))))), ev_bind0 (i_di_yes hg) (ev_pos rfl (Ev.bind hi (Ev.bind (i_diameter hg) (ev_neg z1 (Ev.now _)))))⟩
  · exact ⟨false, 1, Ev.bind ((s_di n l).no hg) (ev_neg (by decide) (Ev.now _)), ev_bind0 (i_di_no hg) (ev_neg (by decide) (Ev.now _))⟩
theorem FnExactIsMooreDigraph : ∀ (a0_0 : Int) (l0_1 : List Int), (Lit.int .i64 a0_0).wf = true → l0_1.length ≤ maxLen → (∀ x ∈ l0_1, (Lit.int .i64 x).wf = true) → ∃ k, laws_FnExactIsMooreDigraph.f k a0_0 l0_1 = some true := by
  intro n l _ hl _
  refine Ev.rounds ?_
  unfold laws_FnExactIsMooreDigraph.f
  rw [szD n l hl]
  simp only [Option.bind_some]
  by_cases hs : l.length ≤ 1048576
  · rw [if_pos hs]
    refine ev_neg (by omega) ?_
    obtain ⟨b, c, h1, h2⟩ := both n l
    refine Ev.bind (toD n l hs) (Ev.bind h1 (Ev.bind (toD n l hs) (Ev.bind h2 (ev_neg (by simp) ?_))))
    refine ev_k ?_
    simp only [laws_FnExactIsMooreDigraph.j0]
    exact ev_neg (by simp) (Ev.bind (toD n l hs) (Ev.bind (eqD n l hs) (ev_pos rfl (Ev.now _))))
  · rw [if_neg hs]
    exact ev_pos (by decide) (Ev.now _)
end Go.Proofs.YtkmpkcofddpdgaaDoor.Pure
