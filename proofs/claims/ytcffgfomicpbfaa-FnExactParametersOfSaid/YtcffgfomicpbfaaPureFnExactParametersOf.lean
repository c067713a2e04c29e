/- The pure law and what it leans on, in one text (wip/bin/bundle). -/
import Derived.Test.YtcffgfomicpbfaaP12
import Derived.Test.YtcffgfomicpbfaaP19
import Derived.Test.YtcffgfomicpbfaaP20
import Derived.Test.YtcffgfomicpbfaaP11
import Derived.Test.YtcffgfomicpbfaaP18
import Derived.Test.YtcffgfomicpbfaaP16
import Derived.Test.YtcffgfomicpbfaaP17
import Derived.Test.YtcffgfomicpbfaaWA
import Derived.Test.YtcffgfomicpbfaaWBMore
import Derived.Laws.BitsLemmas
import Derived.Test.YtcffgfomicpbfaaP13
import Derived.Test.YtcffgfomicpbfaaP7
import Derived.Test.YtcffgfomicpbfaaP8
import Derived.Test.YtcffgfomicpbfaaP10
import Derived.Test.YtcffgfomicpbfaaP14
import Derived.Test.YtcffgfomicpbfaaP15
import Derived.Test.YtcffgfomicpbfaaP9
import Derived.Test.YtcffgfomicpbfaaP4
import Derived.Test.YtcffgfomicpbfaaP6
import Derived.Test.YtcffgfomicpbfaaP1
import Derived.Test.YtcffgfomicpbfaaP2
import Derived.Test.YtcffgfomicpbfaaP3
import Derived.Test.YtcffgfomicpbfaaP5
namespace Go.Proofs.Ytcffgfomicpbfaa.Q
open Go Go.RowKit Go.Proofs.YtcffgfomicpbfaaW.PrintWords Go.Proofs.YtcffgfomicpbfaaW.PrintMore
theorem ev_k {α : Type} {g : Nat → Option α} {r : α} (h : Ev (fun k => g (k + 1)) r) : Ev g r := Ev.step (fun _ => rfl) h
theorem ev_some {α : Type} {r s : α} (h : r = s) : Ev (fun _ => some r) s := h ▸ Ev.now r
theorem ev_pos {α : Type} {c : Prop} [Decidable c] {f g : Nat → Option α} {r : α} (h : c) (H : Ev f r) : Ev (fun k => if c then f k else g k) r :=
  Ev.congr (fun _ => if_pos h) H
theorem ev_neg {α : Type} {c : Prop} [Decidable c] {f g : Nat → Option α} {r : α} (h : ¬ c) (H : Ev g r) : Ev (fun k => if c then f k else g k) r :=
  Ev.congr (fun _ => if_neg h) H
theorem ev_of {α : Type} {o : Option α} {r : α} (h : o = some r) : Ev (fun _ => o) r := ⟨0, fun _ _ => h⟩
theorem ev_bind0 {α β : Type} {o : Option α} {f : Nat → α → Option β} {a : α} {r : β} (h : o = some a) (H : Ev (fun n => f n a) r) : Ev (fun n => o.bind (f n)) r :=
  Ev.bind (ev_of h) H
theorem w64 {a : Int} (h0 : -9223372036854775808 ≤ a) (h1 : a < 9223372036854775808) : wrap64 a = a := by
  unfold wrap64
  omega
def Says (g : Nat → Option Bool) (P : Prop) : Prop := ∃ b : Bool, Ev g b ∧ (b = true ↔ P)
theorem says_iff {g : Nat → Option Bool} {P R : Prop} (h : P ↔ R) (H : Says g R) : Says g P := by
  obtain ⟨b, hb, e⟩ := H
  exact ⟨b, hb, e.trans h.symm⟩
theorem says_k {g : Nat → Option Bool} {P : Prop} (H : Says (fun k => g (k + 1)) P) : Says g P := by
  obtain ⟨b, hb, e⟩ := H
  exact ⟨b, ev_k hb, e⟩
theorem says_pos {c : Prop} [Decidable c] {f g : Nat → Option Bool} {P : Prop} (h : c) (H : Says f P) : Says (fun k => if c then f k else g k) P := by
  obtain ⟨b, hb, e⟩ := H
  exact ⟨b, ev_pos h hb, e⟩
theorem says_neg {c : Prop} [Decidable c] {f g : Nat → Option Bool} {P : Prop} (h : ¬ c) (H : Says g P) : Says (fun k => if c then f k else g k) P := by
  obtain ⟨b, hb, e⟩ := H
  exact ⟨b, ev_neg h hb, e⟩
theorem says_true {P : Prop} (h : P) : Says (fun _ => some true) P := ⟨true, Ev.now _, by simp [h]⟩
theorem says_false {P : Prop} (h : ¬ P) : Says (fun _ => some false) P := ⟨false, Ev.now _, by simp [h]⟩
theorem Says.yes {g : Nat → Option Bool} {P : Prop} (H : Says g P) (h : P) : Ev g true := by
  obtain ⟨b, hb, e⟩ := H
  rw [e.2 h] at hb
  exact hb
theorem Says.no {g : Nat → Option Bool} {P : Prop} (H : Says g P) (h : ¬ P) : Ev g false := by
  obtain ⟨b, hb, e⟩ := H
  cases b with
  | true => exact absurd (e.1 rfl) h
  | false => exact hb
end Go.Proofs.Ytcffgfomicpbfaa.Q
namespace Go.Proofs.Ytcffgfomicpbfaa.Q
open Go Go.RowKit Go.Proofs.YtcffgfomicpbfaaW.PrintWords Go.Proofs.YtcffgfomicpbfaaW.PrintLast Go.Proofs.YtcffgfomicpbfaaW.PrintMore
def tb (x i : Int) : Bool := decide (x / 2 ^ i.toNat % 2 = 1)
theorem wu64 {a : Int} (h0 : 0 ≤ a) (h1 : a < 18446744073709551616) : IntKind.u64.wrap a = a := by
  simp [IntKind.wrap, IntKind.bits, IntKind.signed]
  omega
theorem w64' (a : Int) : IntKind.i64.wrap a = wrap64 a := by
  rw [IntKind.wrap_i64]
  unfold wrap64
  rfl
theorem and_one (a : Int) : bits .and .i64 a 1 = a % 2 := by
  have e : (BitVec.ofInt 64 a &&& BitVec.ofInt 64 1).toNat = (a % 2).toNat := by
    rw [BitVec.toNat_and, show (BitVec.ofInt 64 1).toNat = 1 from rfl, Nat.and_one_is_mod, BitVec.toNat_ofInt]
    omega
  show IntKind.i64.wrap (((BitVec.ofInt 64 a &&& BitVec.ofInt 64 1).toNat : Nat) : Int) = a % 2
  rw [e, w64']
  rw [w64] <;> omega
theorem shr_at {x i : Int} (i0 : 0 ≤ i) (i1 : i ≤ 63) : shr .i64 x i = x / 2 ^ i.toNat := by
  unfold shr
  rw [Nat.min_eq_left (by simp [IntKind.bits]; omega)]
theorem bit_at {x i : Int} (i0 : 0 ≤ i) (i1 : i ≤ 63) : bits .and .i64 (shr .i64 x i) 1 = if tb x i then 1 else 0 := by
  rw [and_one, shr_at i0 i1]
  unfold tb
  have := Int.emod_two_eq (x / 2 ^ i.toNat)
  rcases this with h | h <;> simp [h]
theorem bit_is {x i : Int} (i0 : 0 ≤ i) (i1 : i ≤ 63) : (bits .and .i64 (shr .i64 x i) 1 == 1) = tb x i := by
  rw [bit_at i0 i1]
  cases tb x i <;> rfl
theorem bit_eq {x y i j : Int} (i0 : 0 ≤ i) (i1 : i ≤ 63) (j0 : 0 ≤ j) (j1 : j ≤ 63) : bits .and .i64 (shr .i64 x i) 1 = bits .and .i64 (shr .i64 y j) 1 ↔ tb x i = tb y j := by
  rw [bit_at i0 i1, bit_at j0 j1]
  cases tb x i <;> cases tb y j <;> simp
theorem two_pow_le {n : Int} (h0 : 0 ≤ n) (h1 : n ≤ 62) : (1 : Int) ≤ 2 ^ n.toNat ∧ (2 : Int) ^ n.toNat ≤ 4611686018427387904 := by
  have e : ((2 : Int) ^ n.toNat) = ((2 ^ n.toNat : Nat) : Int) := by simp
  have a : 2 ^ n.toNat ≤ 2 ^ 62 := Nat.pow_le_pow_right (by decide) (by omega)
  have b : 1 ≤ 2 ^ n.toNat := Nat.one_le_two_pow
  rw [e]
  omega
theorem shl_one {n : Int} (h0 : 0 ≤ n) (h1 : n ≤ 62) : shl .i64 1 n = 2 ^ n.toNat := by
  have := two_pow_le h0 h1
  unfold shl
  rw [Nat.min_eq_left (by simp [IntKind.bits]; omega), Int.one_mul, w64', w64] <;> omega
theorem and_nat (a b : Nat) (ha : a < 2 ^ 63) (hb : b < 2 ^ 63) : bits .and .i64 a b = ((a &&& b : Nat) : Int) :=
  (bits_nat .i64 63 (by decide) (fun n h0 h1 => by rw [w64', w64] <;> omega) a b ha hb).1
theorem uand_nat (a b : Nat) (ha : a < 2 ^ 64) (hb : b < 2 ^ 64) : bits .and .u64 a b = ((a &&& b : Nat) : Int) :=
  (bits_nat .u64 64 (by decide) (fun n h0 h1 => wu64 h0 (by omega)) a b ha hb).1
end Go.Proofs.Ytcffgfomicpbfaa.Q
namespace Go.Proofs.Ytcffgfomicpbfaa.Q
open Go Go.RowKit Go.Proofs.YtcffgfomicpbfaaW.PrintWords
def rows (n : Int) (l : List Int) : Prop := 1 ≤ n ∧ n ≤ 62 ∧ (l.length : Int) = n ∧ ∀ v, 0 ≤ v → v < n → 0 ≤ rd l v ∧ rd l v < 2 ^ n.toNat
def isG (n : Int) (l : List Int) : Prop := rows n l ∧ (∀ v, 0 ≤ v → v < n → tb (rd l v) v = false) ∧ ∀ v w, 0 ≤ v → v < n → 0 ≤ w → w < n → tb (rd l v) w = tb (rd l w) v
theorem rows.nat {n : Int} {l : List Int} (h : rows n l) {v : Int} (h0 : 0 ≤ v) (h1 : v < n) : ∃ x : Nat, rd l v = (x : Int) ∧ x < 2 ^ n.toNat ∧ x < 2 ^ 62 := by
  obtain ⟨a, b, c, d⟩ := h
  obtain ⟨d0, d1⟩ := d v h0 h1
  have e : ((2 : Int) ^ n.toNat) = ((2 ^ n.toNat : Nat) : Int) := by simp
  have p : 2 ^ n.toNat ≤ 2 ^ 62 := Nat.pow_le_pow_right (by decide) (by omega)
  rw [e] at d1
  exact ⟨(rd l v).toNat, by omega, by omega, by omega⟩
end Go.Proofs.Ytcffgfomicpbfaa.Q
namespace Go.Proofs.Ytcffgfomicpbfaa.Q
open Go Go.RowKit Go.Proofs.YtcffgfomicpbfaaW.PrintWords Go.Proofs.YtcffgfomicpbfaaW.PrintMore
def Mx (n : Int) (l : List Int) (P : Int → Int → Prop) : Prop := (l.length : Int) = n ∧ ∀ v, 0 ≤ v → v < n → (0 ≤ rd l v ∧ rd l v < 2 ^ n.toNat) ∧ ∀ w, 0 ≤ w → w < n → (tb (rd l v) w = true ↔ P v w)
theorem Mx.zero (n : Int) (n0 : 0 ≤ n) : Mx n (List.replicate n.toNat 0) (fun _ _ => False) := by
  refine ⟨by simp; omega, fun v v0 v1 => ?_⟩
  have e : rd (List.replicate n.toNat 0) v = 0 := by
    have : v.toNat < n.toNat := by omega
    simp [rd, List.getD_eq_getElem?_getD, this]
  rw [e]
  have p : (0 : Int) < 2 ^ n.toNat := Int.pow_pos (by decide)
  refine ⟨⟨by omega, p⟩, fun w w0 w1 => ?_⟩
  simp [tb]
theorem Mx.rows {n : Int} {l : List Int} {P : Int → Int → Prop} (h : Mx n l P) (n1 : 1 ≤ n) (n2 : n ≤ 62) : rows n l := ⟨n1, n2, h.1, fun v v0 v1 => (h.2 v v0 v1).1⟩
end Go.Proofs.Ytcffgfomicpbfaa.Q
namespace Go.Proofs.Ytcffgfomicpbfaa.Q
open Go Go.RowKit Go.Proofs.Ytcffgfomicpbfaa.P Go.Proofs.YtcffgfomicpbfaaW.PrintWords Go.Proofs.YtcffgfomicpbfaaW.PrintMore
theorem min_l0 (l : List Int) (hl : l.length ≤ 1152921504606846976) (d : Nat) : ∀ (m i : Int), 0 ≤ i → i ≤ l.length → l.length - i = d → ∃ r, Ev (fun k => slices_Min_int64_int64.l0 k l m i) r ∧ r ≤ m ∧ (∀ j : Int, i ≤ j → j < l.length → r ≤ rd l j) ∧ (r = m ∨ ∃ j : Int, i ≤ j ∧ j < l.length ∧ r = rd l j) := by
  induction d with
  | zero =>
    intro m i i0 i1 hd
    refine ⟨m, ev_k ?_, by omega, fun j _ _ => by omega, .inl rfl⟩
    simp only [slices_Min_int64_int64.l0]
    exact ev_neg (by omega) (Ev.now _)
  | succ d ih =>
    intro m i i0 i1 hd
    obtain ⟨r, hr, r1, r2, r3⟩ := ih (mn m (rd l i)) (i + 1) (by omega) (by omega) (by omega)
    have e : mn m (rd l i) ≤ m ∧ mn m (rd l i) ≤ rd l i ∧ (mn m (rd l i) = m ∨ mn m (rd l i) = rd l i) := by
      unfold mn
      split <;> omega
    refine ⟨r, ev_k ?_, by omega, fun j j0 j1 => if h : j = i then by rw [h]; omega else r2 j (by omega) j1, ?_⟩
    · simp only [slices_Min_int64_int64.l0]
      rw [w64 (a := i + 1) (by omega) (by omega)]
      exact ev_pos (by omega) (ev_pos i0 hr)
    · rcases r3 with h | ⟨j, j0, j1, h⟩
      · rcases e.2.2 with e | e
        · exact .inl (h.trans e)
        · exact .inr ⟨i, by omega, by omega, h.trans e⟩
      · exact .inr ⟨j, by omega, j1, h⟩
theorem max_l0 (l : List Int) (hl : l.length ≤ 1152921504606846976) (d : Nat) : ∀ (m i : Int), 0 ≤ i → i ≤ l.length → l.length - i = d → ∃ r, Ev (fun k => slices_Max_int64_int64.l0 k l m i) r ∧ m ≤ r ∧ (∀ j : Int, i ≤ j → j < l.length → rd l j ≤ r) ∧ (r = m ∨ ∃ j : Int, i ≤ j ∧ j < l.length ∧ r = rd l j) := by
  induction d with
  | zero =>
    intro m i i0 i1 hd
    refine ⟨m, ev_k ?_, by omega, fun j _ _ => by omega, .inl rfl⟩
    simp only [slices_Max_int64_int64.l0]
    exact ev_neg (by omega) (Ev.now _)
  | succ d ih =>
    intro m i i0 i1 hd
    obtain ⟨r, hr, r1, r2, r3⟩ := ih (mx m (rd l i)) (i + 1) (by omega) (by omega) (by omega)
    have e : m ≤ mx m (rd l i) ∧ rd l i ≤ mx m (rd l i) ∧ (mx m (rd l i) = m ∨ mx m (rd l i) = rd l i) := by
      unfold mx
      split <;> omega
    refine ⟨r, ev_k ?_, by omega, fun j j0 j1 => if h : j = i then by rw [h]; omega else r2 j (by omega) j1, ?_⟩
    · simp only [slices_Max_int64_int64.l0]
      rw [w64 (a := i + 1) (by omega) (by omega)]
      exact ev_pos (by omega) (ev_pos i0 hr)
    · rcases r3 with h | ⟨j, j0, j1, h⟩
      · rcases e.2.2 with e | e
        · exact .inl (h.trans e)
        · exact .inr ⟨i, by omega, by omega, h.trans e⟩
      · exact .inr ⟨j, by omega, j1, h⟩
theorem mins (l : List Int) (hl : l.length ≤ 1152921504606846976) (h0 : 0 < l.length) : ∃ r, Ev (fun k => slices_Min_int64_int64.f k l) r ∧ (∀ j : Int, 0 ≤ j → j < l.length → r ≤ rd l j) ∧ ∃ j : Int, 0 ≤ j ∧ j < l.length ∧ r = rd l j := by
  obtain ⟨r, hr, r1, r2, r3⟩ := min_l0 l hl (l.length - 1) (rd l 0) 1 (by omega) (by omega) (by omega)
  refine ⟨r, ?_, fun j j0 j1 => if h : j = 0 then by rw [h]; exact r1 else r2 j (by omega) j1, ?_⟩
  · unfold slices_Min_int64_int64.f
    exact ev_neg (by omega) (ev_pos (by omega) hr)
  · rcases r3 with h | ⟨j, j0, j1, h⟩
    · exact ⟨0, by omega, by omega, h⟩
    · exact ⟨j, by omega, j1, h⟩
theorem maxs (l : List Int) (hl : l.length ≤ 1152921504606846976) (h0 : 0 < l.length) : ∃ r, Ev (fun k => slices_Max_int64_int64.f k l) r ∧ (∀ j : Int, 0 ≤ j → j < l.length → rd l j ≤ r) ∧ ∃ j : Int, 0 ≤ j ∧ j < l.length ∧ r = rd l j := by
  obtain ⟨r, hr, r1, r2, r3⟩ := max_l0 l hl (l.length - 1) (rd l 0) 1 (by omega) (by omega) (by omega)
  refine ⟨r, ?_, fun j j0 j1 => if h : j = 0 then by rw [h]; exact r1 else r2 j (by omega) j1, ?_⟩
  · unfold slices_Max_int64_int64.f
    exact ev_neg (by omega) (ev_pos (by omega) hr)
  · rcases r3 with h | ⟨j, j0, j1, h⟩
    · exact ⟨0, by omega, by omega, h⟩
    · exact ⟨j, by omega, j1, h⟩
end Go.Proofs.Ytcffgfomicpbfaa.Q
namespace Go.Proofs.Ytcffgfomicpbfaa.Q
open Go Go.RowKit Go.Proofs.Ytcffgfomicpbfaa.P
theorem s_in (a b c : Int) : spec_l01In.f a b c = some (decide (b ≤ a ∧ a ≤ c)) := by
  unfold spec_l01In.f
  split
  · exact congrArg some (decide_eq_decide.2 (by omega))
  · exact congrArg some (decide_eq_false (by omega)).symm
end Go.Proofs.Ytcffgfomicpbfaa.Q
namespace Go.Proofs.Ytcffgfomicpbfaa.Q
open Go Go.RowKit
def pc : Nat → Nat → Nat
  | 0, _ => 0
  | n + 1, x => x % 2 + pc n (x / 2)
theorem pc_le (n : Nat) : ∀ x, pc n x ≤ n := by
  induction n with
  | zero => intro x; simp [pc]
  | succ n ih => intro x; simp only [pc]; have := ih (x / 2); omega
theorem pc_add (a : Nat) : ∀ b x, pc (a + b) x = pc a x + pc b (x / 2 ^ a) := by
  induction a with
  | zero => intro b x; simp [pc]
  | succ a ih =>
    intro b x
    rw [show a + 1 + b = (a + b) + 1 by omega]
    simp only [pc]
    rw [ih, Nat.div_div_eq_div_mul, Nat.pow_succ', Nat.add_assoc]
theorem pc_zero (n : Nat) : pc n 0 = 0 := by
  induction n with
  | zero => rfl
  | succ n ih => simp [pc, ih]
theorem pc_big {m n x : Nat} (h : x < 2 ^ m) (hn : m ≤ n) : pc n x = pc m x := by
  obtain ⟨b, rfl⟩ : ∃ b, n = m + b := ⟨n - m, by omega⟩
  rw [pc_add, Nat.div_eq_of_lt h, pc_zero]
  rfl
def rep (B d : Nat) : Nat → Nat
  | 0 => 0
  | n + 1 => rep B d n * B + d
theorem and_rep (w d n x : Nat) (hd : d < 2 ^ w) : x &&& rep (2 ^ w) d (n + 1) = (x / 2 ^ w &&& rep (2 ^ w) d n) * 2 ^ w + (x % 2 ^ w &&& d) := by
  have h1 : (x &&& rep (2 ^ w) d (n + 1)) / 2 ^ w = x / 2 ^ w &&& rep (2 ^ w) d n := by
    rw [Nat.and_div_two_pow]
    congr 1
    simp only [rep]
    rw [Nat.mul_comm, Nat.mul_add_div (Nat.two_pow_pos w), Nat.div_eq_of_lt hd]
    rfl
  have h2 : (x &&& rep (2 ^ w) d (n + 1)) % 2 ^ w = x % 2 ^ w &&& d := by
    rw [Nat.and_mod_two_pow]
    congr 1
    simp only [rep]
    rw [Nat.mul_comm, Nat.mul_add_mod, Nat.mod_eq_of_lt hd]
  have := Nat.div_add_mod (x &&& rep (2 ^ w) d (n + 1)) (2 ^ w)
  rw [h1, h2, Nat.mul_comm] at this
  exact this.symm
def sA (n x : Nat) : Nat := (x / 2 &&& rep 4 1 n) + (x &&& rep 4 1 n)
theorem sA_succ (n x : Nat) : sA (n + 1) x = sA n (x / 4) * 4 + pc 2 x := by
  have a := and_rep 2 1 n (x / 2) (by decide)
  have b := and_rep 2 1 n x (by decide)
  simp only [show (2 : Nat) ^ 2 = 4 from rfl, Nat.and_one_is_mod] at a b
  unfold sA
  rw [a, b, show x / 2 / 4 = x / 8 by omega, show x / 4 / 2 = x / 8 by omega]
  simp only [pc]
  omega
theorem sA_lt (n : Nat) : ∀ x, sA n x < 4 ^ n ∨ n = 0 ∧ sA n x = 0 := by
  induction n with
  | zero => intro x; right; exact ⟨rfl, by simp [sA, rep]⟩
  | succ n ih =>
    intro x
    left
    have := pc_le 2 x
    rw [sA_succ, Nat.pow_succ]
    rcases ih (x / 4) with h | ⟨rfl, h⟩
    · omega
    · rw [h]; omega
theorem digs (q a b : Nat) (ha : a ≤ 2) (hb : b ≤ 2) : (q * 16 + b * 4 + a) / 4 / 16 = q / 4 ∧ (q * 16 + b * 4 + a) / 16 = q ∧ (q * 16 + b * 4 + a) / 4 % 16 % 4 = b ∧ (q * 16 + b * 4 + a) % 16 % 4 = a := by
  have e : (q * 16 + b * 4 + a) / 4 = q * 4 + b := by omega
  rw [e, Nat.mod_mod_of_dvd _ (by decide : 4 ∣ 16), Nat.mod_mod_of_dvd _ (by decide : 4 ∣ 16)]
  omega
theorem digs2 (q a b : Nat) (ha : a ≤ 4) (hb : b ≤ 4) (hq : q % 16 ≤ 4) : ((q * 256 + b * 16 + a) / 16 + (q * 256 + b * 16 + a)) / 256 = q / 16 + q ∧ ((q * 256 + b * 16 + a) / 16 + (q * 256 + b * 16 + a)) % 256 % 16 = a + b := by
  have e : (q * 256 + b * 16 + a) / 16 = q * 16 + b := by omega
  rw [e, Nat.mod_mod_of_dvd _ (by decide : 16 ∣ 256)]
  omega
def sB (n x : Nat) : Nat := (sA (2 * n) x / 4 &&& rep 16 3 n) + (sA (2 * n) x &&& rep 16 3 n)
theorem sB_succ (n x : Nat) : sB (n + 1) x = sB n (x / 16) * 16 + pc 4 x := by
  have e : sA (2 * (n + 1)) x = sA (2 * n) (x / 16) * 16 + pc 2 (x / 4) * 4 + pc 2 x := by
    rw [show 2 * (n + 1) = (2 * n + 1) + 1 by omega, sA_succ, sA_succ, show x / 4 / 4 = x / 16 by omega]
    omega
  have p1 := pc_le 2 x
  have p2 := pc_le 2 (x / 4)
  have p4 : pc 4 x = pc 2 x + pc 2 (x / 4) := pc_add 2 2 x
  have a := and_rep 4 3 n (sA (2 * (n + 1)) x / 4) (by decide)
  have b := and_rep 4 3 n (sA (2 * (n + 1)) x) (by decide)
  have m3 : ∀ y : Nat, y &&& 3 = y % 4 := fun y => by simpa using Nat.and_two_pow_sub_one_eq_mod y 2
  simp only [show (2 : Nat) ^ 4 = 16 from rfl, m3] at a b
  unfold sB
  rw [a, b]
  obtain ⟨e1, e2, e3, e4⟩ := digs (sA (2 * n) (x / 16)) _ _ p1 p2
  rw [e, e1, e2, e3, e4, p4]
  omega
theorem sB_zero (x : Nat) : sB 0 x = 0 := by simp [sB, rep]
theorem sB_lt (n : Nat) : ∀ x, sB n x < 16 ^ n ∧ sB n x % 16 ≤ 4 := by
  induction n with
  | zero => intro x; rw [sB_zero]; omega
  | succ n ih =>
    intro x
    have := pc_le 4 x
    have := (ih (x / 16)).1
    rw [sB_succ, Nat.pow_succ]
    omega
def sC (n x : Nat) : Nat := sB (2 * n) x / 16 + sB (2 * n) x &&& rep 256 15 n
theorem sC_succ (n x : Nat) : sC (n + 1) x = sC n (x / 256) * 256 + pc 8 x := by
  have e : sB (2 * (n + 1)) x = sB (2 * n) (x / 256) * 256 + pc 4 (x / 16) * 16 + pc 4 x := by
    rw [show 2 * (n + 1) = (2 * n + 1) + 1 by omega, sB_succ, sB_succ, show x / 16 / 16 = x / 256 by omega]
    omega
  have p1 := pc_le 4 x
  have p2 := pc_le 4 (x / 16)
  have p8 : pc 8 x = pc 4 x + pc 4 (x / 16) := pc_add 4 4 x
  have q := (sB_lt (2 * n) (x / 256)).2
  have a := and_rep 8 15 n (sB (2 * (n + 1)) x / 16 + sB (2 * (n + 1)) x) (by decide)
  have m15 : ∀ y : Nat, y &&& 15 = y % 16 := fun y => by simpa using Nat.and_two_pow_sub_one_eq_mod y 4
  simp only [show (2 : Nat) ^ 8 = 256 from rfl, m15] at a
  unfold sC
  rw [a]
  obtain ⟨e1, e2⟩ := digs2 (sB (2 * n) (x / 256)) _ _ p1 p2 q
  rw [e, e1, e2, p8]
theorem sC_eight (x : Nat) : sC 8 x = pc 8 x + 256 * pc 8 (x / 256) + 65536 * pc 8 (x / 65536) + 16777216 * pc 8 (x / 16777216) + 4294967296 * pc 8 (x / 4294967296) + 1099511627776 * pc 8 (x / 1099511627776) + 281474976710656 * pc 8 (x / 281474976710656) + 72057594037927936 * pc 8 (x / 72057594037927936) := by
  have z : ∀ y, sC 0 y = 0 := fun y => by simp [sC, rep]
  have s : ∀ n y q, sC (n + 1) (y / q) = sC n (y / (q * 256)) * 256 + pc 8 (y / q) := fun n y q => by rw [sC_succ, Nat.div_div_eq_div_mul]
  rw [show (8 : Nat) = 7 + 1 from rfl, sC_succ 7 x, s 6 x, s 5 x, s 4 x, s 3 x, s 2 x, s 1 x, s 0 x, z]
  simp only [Nat.reduceMul, Nat.reduceAdd]
  omega
theorem pc_eight (x : Nat) : pc 64 x = pc 8 x + pc 8 (x / 256) + pc 8 (x / 65536) + pc 8 (x / 16777216) + pc 8 (x / 4294967296) + pc 8 (x / 1099511627776) + pc 8 (x / 281474976710656) + pc 8 (x / 72057594037927936) := by
  have h : ∀ n y, pc (8 + n) y = pc 8 y + pc n (y / 256) := fun n y => pc_add 8 n y
  rw [show 64 = 8 + (8 + (8 + (8 + (8 + (8 + (8 + 8)))))) from rfl]
  simp only [h, Nat.div_div_eq_div_mul, Nat.reduceMul]
  omega
set_option maxHeartbeats 1000000 in
theorem swar (x : Nat) : ((sC 8 x + sC 8 x / 256) + (sC 8 x + sC 8 x / 256) / 65536 + ((sC 8 x + sC 8 x / 256) + (sC 8 x + sC 8 x / 256) / 65536) / 4294967296) % 128 = pc 64 x := by
  rw [sC_eight, pc_eight]
  have a0 := pc_le 8 x
  have a1 := pc_le 8 (x / 256)
  have a2 := pc_le 8 (x / 65536)
  have a3 := pc_le 8 (x / 16777216)
  have a4 := pc_le 8 (x / 4294967296)
  have a5 := pc_le 8 (x / 1099511627776)
  have a6 := pc_le 8 (x / 281474976710656)
  have a7 := pc_le 8 (x / 72057594037927936)
  generalize pc 8 x = d0 at *
  generalize pc 8 (x / 256) = d1 at *
  generalize pc 8 (x / 65536) = d2 at *
  generalize pc 8 (x / 16777216) = d3 at *
  generalize pc 8 (x / 4294967296) = d4 at *
  generalize pc 8 (x / 1099511627776) = d5 at *
  generalize pc 8 (x / 281474976710656) = d6 at *
  generalize pc 8 (x / 72057594037927936) = d7 at *
  have e1 : (d0 + 256 * d1 + 65536 * d2 + 16777216 * d3 + 4294967296 * d4 + 1099511627776 * d5 + 281474976710656 * d6 + 72057594037927936 * d7) / 256 = d1 + 256 * d2 + 65536 * d3 + 16777216 * d4 + 4294967296 * d5 + 1099511627776 * d6 + 281474976710656 * d7 := by omega
  rw [e1]
  have e2 : (d0 + 256 * d1 + 65536 * d2 + 16777216 * d3 + 4294967296 * d4 + 1099511627776 * d5 + 281474976710656 * d6 + 72057594037927936 * d7 + (d1 + 256 * d2 + 65536 * d3 + 16777216 * d4 + 4294967296 * d5 + 1099511627776 * d6 + 281474976710656 * d7)) / 65536 = (d2 + d3) + 256 * (d3 + d4) + 65536 * (d4 + d5) + 16777216 * (d5 + d6) + 4294967296 * (d6 + d7) + 1099511627776 * d7 := by omega
  rw [e2]
  have e3 : (d0 + 256 * d1 + 65536 * d2 + 16777216 * d3 + 4294967296 * d4 + 1099511627776 * d5 + 281474976710656 * d6 + 72057594037927936 * d7 + (d1 + 256 * d2 + 65536 * d3 + 16777216 * d4 + 4294967296 * d5 + 1099511627776 * d6 + 281474976710656 * d7) + ((d2 + d3) + 256 * (d3 + d4) + 65536 * (d4 + d5) + 16777216 * (d5 + d6) + 4294967296 * (d6 + d7) + 1099511627776 * d7)) / 4294967296 = (d4 + d5 + d6 + d7) + 256 * (d5 + d6 + d7) + 65536 * (d6 + d7) + 16777216 * d7 := by omega
  rw [e3]
  omega
theorem sC_bound (x : Nat) : sC 8 x < 720575940379279360 := by
  rw [sC_eight]
  have a0 := pc_le 8 x
  have a1 := pc_le 8 (x / 256)
  have a2 := pc_le 8 (x / 65536)
  have a3 := pc_le 8 (x / 16777216)
  have a4 := pc_le 8 (x / 4294967296)
  have a5 := pc_le 8 (x / 1099511627776)
  have a6 := pc_le 8 (x / 281474976710656)
  have a7 := pc_le 8 (x / 72057594037927936)
  omega
theorem mA (x : Nat) (hx : x < 2 ^ 64) : IntKind.u64.wrap (bits .and .u64 ((x : Int) / 2) 6148914691236517205 + bits .and .u64 (x : Int) 6148914691236517205) = ((sA 32 x : Nat) : Int) ∧ sA 32 x < 2 ^ 64 := by
  have hb : sA 32 x < 2 ^ 64 := by rcases sA_lt 32 x with h | ⟨h, _⟩ <;> omega
  refine ⟨?_, hb⟩
  have e : rep 4 1 32 = 6148914691236517205 := by decide
  rw [show ((x : Int) / 2) = ((x / 2 : Nat) : Int) by omega, show (6148914691236517205 : Int) = ((6148914691236517205 : Nat) : Int) from rfl, uand_nat _ _ (by omega) (by decide), uand_nat _ _ hx (by decide)]
  rw [← e]
  rw [← Int.natCast_add]
  exact wu64 (by omega) (by unfold sA at hb; omega)
theorem mB (x : Nat) (hx : x < 2 ^ 64) : IntKind.u64.wrap (bits .and .u64 ((sA 32 x : Nat) / 4) 3689348814741910323 + bits .and .u64 (sA 32 x : Nat) 3689348814741910323) = ((sB 16 x : Nat) : Int) ∧ sB 16 x < 2 ^ 64 := by
  have ha := (mA x hx).2
  have hb : sB 16 x < 2 ^ 64 := (sB_lt 16 x).1
  refine ⟨?_, hb⟩
  have e : rep 16 3 16 = 3689348814741910323 := by decide
  rw [show (((sA 32 x : Nat) : Int) / 4) = ((sA 32 x / 4 : Nat) : Int) by omega, show (3689348814741910323 : Int) = ((3689348814741910323 : Nat) : Int) from rfl, uand_nat _ _ (by omega) (by decide), uand_nat _ _ ha (by decide)]
  rw [← e]
  rw [← Int.natCast_add]
  exact wu64 (by omega) (by unfold sB at hb; simp only [show 2 * 16 = 32 from rfl] at hb; omega)
theorem sB_half (x : Nat) : sB 16 x / 16 + sB 16 x < 2 ^ 64 := by
  have h := sB_succ 15 x
  have h1 := (sB_lt 15 (x / 16)).1
  have h2 := (sB_lt 15 (x / 16)).2
  have h3 := sB_succ 14 (x / 16)
  have e : sB 16 x < 6 * 16 ^ 15 := by
    have k : ∀ n y, sB n y * 15 + 4 ≤ 4 * 16 ^ n := by
      intro n
      induction n with
      | zero => intro y; rw [sB_zero]; omega
      | succ n ih =>
        intro y
        have := ih (y / 16)
        have := pc_le 4 y
        have p := Nat.one_le_two_pow (n := 4 * n)
        rw [sB_succ, Nat.pow_succ]
        have : 1 ≤ 16 ^ n := Nat.one_le_pow _ _ (by decide)
        omega
    have := k 16 x
    omega
  omega
theorem mC (x : Nat) : bits .and .u64 (IntKind.u64.wrap (((sB 16 x : Nat) : Int) / 16 + (sB 16 x : Nat))) 1085102592571150095 = ((sC 8 x : Nat) : Int) := by
  have hb := sB_half x
  have e : rep 256 15 8 = 1085102592571150095 := by decide
  rw [show (((sB 16 x : Nat) : Int) / 16 + (sB 16 x : Nat)) = ((sB 16 x / 16 + sB 16 x : Nat) : Int) by omega, wu64 (by omega) (by omega), show (1085102592571150095 : Int) = ((1085102592571150095 : Nat) : Int) from rfl, uand_nat _ _ hb (by decide)]
  rw [← e]
  rfl
end Go.Proofs.Ytcffgfomicpbfaa.Q
namespace Go.Proofs.Ytcffgfomicpbfaa.Q
open Go Go.RowKit Go.Proofs.Ytcffgfomicpbfaa.P Go.Proofs.YtcffgfomicpbfaaW.PrintWords Go.Proofs.YtcffgfomicpbfaaW.PrintMore
set_option linter.unusedVariables false
theorem s_has (n : Int) (l : List Int) (v w : Int) (v0 : 0 ≤ v) (v1 : v < l.length) (w0 : 0 ≤ w) (w1 : w ≤ 63) : spec_l01Has.f n l v w = some (tb (rd l v) w) := by
  unfold spec_l01Has.f
  rw [if_pos v0, if_pos v1, wu64 w0 (by omega), if_pos w0, bit_is w0 w1]
section
variable {n : Int} {l : List Int} (n1 : 1 ≤ n) (n2 : n ≤ 62) (hn : (l.length : Int) = n)
include n1 n2 hn
theorem s_is_l1 (d : Nat) : ∀ v : Int, 0 ≤ v → v ≤ n → n - v = d → Says (fun k => spec_l01Is.l1 k v n l) (∀ a, v ≤ a → a < n → ∀ b, 0 ≤ b → b < a → tb (rd l a) b = tb (rd l b) a) := by
  induction d with
  | zero =>
    intro v v0 v1 hd
    refine says_k ?_
    simp only [spec_l01Is.l1]
    exact says_neg (by omega) (says_true fun a _ _ => by omega)
  | succ d ih =>
    intro v v0 v1 hd
    have hv : v < n := by omega
    have inner : ∀ (e : Nat) (w : Int), 0 ≤ w → w ≤ v → v - w = e → Says (fun k => spec_l01Is.l2 k v w n l) ((∀ b, w ≤ b → b < v → tb (rd l v) b = tb (rd l b) v) ∧ ∀ a, v + 1 ≤ a → a < n → ∀ b, 0 ≤ b → b < a → tb (rd l a) b = tb (rd l b) a) := by
      intro e
      induction e with
      | zero =>
        intro w w0 w1 he
        refine says_k ?_
        simp only [spec_l01Is.l2]
        refine says_neg (by omega) ?_
        rw [w64 (a := v + 1) (by omega) (by omega)]
        exact says_iff ⟨fun h => h.2, fun h => ⟨fun b _ _ => by omega, h⟩⟩ (ih (v + 1) (by omega) (by omega) (by omega))
      | succ e ihe =>
        intro w w0 w1 he
        refine says_k ?_
        simp only [spec_l01Is.l2]
        refine says_pos (by omega) ?_
        rw [s_has n l v w v0 (by omega) w0 (by omega), s_has n l w v w0 (by omega) v0 (by omega)]
        simp only [Option.bind_some]
        by_cases h : tb (rd l v) w = tb (rd l w) v
        · refine says_neg (by simp [h]) ?_
          rw [w64 (a := w + 1) (by omega) (by omega)]
          exact says_iff ⟨fun z => ⟨fun b b0 b1 => z.1 b (by omega) b1, z.2⟩, fun z => ⟨fun b b0 b1 => if hb : b = w then by rw [hb]; exact h else z.1 b (by omega) b1, z.2⟩⟩ (ihe (w + 1) (by omega) (by omega) (by omega))
        · exact says_pos (by simp [h]) (says_false fun z => h (z.1 w (by omega) (by omega)))
    refine says_k ?_
    simp only [spec_l01Is.l1]
    exact says_pos hv (says_iff ⟨fun z => ⟨fun b b0 b1 => z v (by omega) hv b b0 b1, fun a a0 a1 => z a (by omega) a1⟩, fun z a a0 a1 b b0 b1 => if ha : a = v then by subst ha; exact z.1 b b0 b1 else z.2 a (by omega) a1 b b0 b1⟩ (inner v.toNat 0 (by omega) (by omega) (by omega)))
theorem s_is_l0 (d : Nat) : ∀ v : Int, 0 ≤ v → v ≤ n → n - v = d → Says (fun k => spec_l01Is.l0 k v n l) ((∀ a, v ≤ a → a < n → (0 ≤ rd l a ∧ rd l a < 2 ^ n.toNat) ∧ tb (rd l a) a = false) ∧ ∀ a, 0 ≤ a → a < n → ∀ b, 0 ≤ b → b < a → tb (rd l a) b = tb (rd l b) a) := by
  have hp := two_pow_le (n := n) (by omega) n2
  induction d with
  | zero =>
    intro v v0 v1 hd
    refine says_k ?_
    simp only [spec_l01Is.l0]
    exact says_neg (by omega) (says_iff ⟨fun h => h.2, fun h => ⟨fun a _ _ => by omega, h⟩⟩ (s_is_l1 n1 n2 hn n.toNat 0 (by omega) (by omega) (by omega)))
  | succ d ih =>
    intro v v0 v1 hd
    refine says_k ?_
    simp only [spec_l01Is.l0]
    rw [wu64 (a := n) (by omega) (by omega), shl_one (by omega) n2, w64 (a := 2 ^ n.toNat - 1) (by omega) (by omega)]
    refine says_pos (by omega) (says_pos v0 (says_pos (by omega) (says_pos (by omega) ?_)))
    rw [s_in, s_has n l v v v0 (by omega) v0 (by omega)]
    simp only [Option.bind_some]
    by_cases h : 0 ≤ rd l v ∧ rd l v ≤ 2 ^ n.toNat - 1
    · refine says_pos (decide_eq_true h) ?_
      by_cases ht : tb (rd l v) v = true
      · exact says_pos ht (says_false fun z => by have := (z.1 v (by omega) (by omega)).2; rw [ht] at this; cases this)
      · refine says_neg ht ?_
        rw [w64 (a := v + 1) (by omega) (by omega)]
        refine says_iff ⟨fun z => ⟨fun a a0 a1 => z.1 a (by omega) a1, z.2⟩, fun z => ⟨fun a a0 a1 => if ha : a = v then ?_ else z.1 a (by omega) a1, z.2⟩⟩ (ih (v + 1) (by omega) (by omega) (by omega))
        subst ha
        exact ⟨by omega, by simpa using ht⟩
    · exact says_neg (by simpa using h) (says_false fun z => h (by have := (z.1 v (by omega) (by omega)).1; omega))
theorem i_is_l1 (v : Int) (v0 : 0 ≤ v) (v1 : v < n) (x : Int) (y3 y4 : Int) (y5 : List Int) (P : Prop) (hc : Says (fun k => impl_IsGraph.l0 k n y5 y3 (wrap64 (y4 + 1)) n l) P) (d : Nat) : ∀ w : Int, 0 ≤ w → w ≤ n → n - w = d →
    Says (fun k => impl_IsGraph.l1 k n v x y5 y3 y4 n w n l) ((∀ b, w ≤ b → b < n → tb x b = tb (rd l b) v) ∧ P) := by
  induction d with
  | zero =>
    intro w w0 w1 hd
    refine says_k ?_
    simp only [impl_IsGraph.l1]
    exact says_neg (by omega) (says_iff ⟨fun h => h.2, fun h => ⟨fun b _ _ => by omega, h⟩⟩ hc)
  | succ d ih =>
    intro w w0 w1 hd
    refine says_k ?_
    simp only [impl_IsGraph.l1]
    refine says_pos (by omega) (says_pos w0 (says_pos (by omega) (says_pos v0 ?_)))
    by_cases h : tb x w = tb (rd l w) v
    · refine says_pos ((bit_eq w0 (by omega) v0 (by omega)).2 h) ?_
      rw [w64 (a := w + 1) (by omega) (by omega)]
      exact says_iff ⟨fun z => ⟨fun b b0 b1 => z.1 b (by omega) b1, z.2⟩, fun z => ⟨fun b b0 b1 => if hb : b = w then by rw [hb]; exact h else z.1 b (by omega) b1, z.2⟩⟩ (ih (w + 1) (by omega) (by omega) (by omega))
    · exact says_neg (fun z => h ((bit_eq w0 (by omega) v0 (by omega)).1 z)) (says_false fun z => h (z.1 w (by omega) (by omega)))
theorem i_is_l0 (d : Nat) : ∀ v : Int, 0 ≤ v → v ≤ n → n - v = d → Says (fun k => impl_IsGraph.l0 k n l n v n l) (∀ a, v ≤ a → a < n → ((0 ≤ rd l a ∧ rd l a < 2 ^ n.toNat) ∧ tb (rd l a) a = false) ∧ ∀ b, 0 ≤ b → b < n → tb (rd l a) b = tb (rd l b) a) := by
  induction d with
  | zero =>
    intro v v0 v1 hd
    refine says_k ?_
    simp only [impl_IsGraph.l0]
    exact says_neg (by omega) (says_true fun a _ _ => by omega)
  | succ d ih =>
    intro v v0 v1 hd
    have hv : v < n := by omega
    have ih := ih (v + 1) (by omega) (by omega) (by omega)
    have bad : ∀ (P : Prop), ¬ P → Says (fun k => impl_IsGraph.j2 k n v (rd l v) l n v true n l) P := fun P hP => by
      refine says_k ?_
      simp only [impl_IsGraph.j2]
      exact says_pos trivial (says_false hP)
    refine says_k ?_
    simp only [impl_IsGraph.l0]
    refine says_pos hv (says_pos v0 (says_pos (by omega) ?_))
    by_cases h0 : rd l v < 0
    · exact says_pos h0 (bad _ fun z => by have := (z v (by omega) hv).1.1; omega)
    · refine says_neg h0 (says_pos (by omega) ?_)
      rw [shl_one (by omega) n2]
      by_cases h1 : rd l v ≥ 2 ^ n.toNat
      · exact says_pos h1 (bad _ fun z => by have := (z v (by omega) hv).1.1; omega)
      · refine says_neg h1 ?_
        rw [bit_is v0 (by omega)]
        cases ht : tb (rd l v) v with
        | true => exact bad _ fun z => by have := (z v (by omega) hv).1.2; rw [ht] at this; cases this
        | false =>
          refine says_k ?_
          simp only [impl_IsGraph.j2]
          refine says_neg (by decide) ?_
          refine says_iff ?_ (i_is_l1 n1 n2 hn v v0 hv (rd l v) n v l _ (by rw [w64 (a := v + 1) (by omega) (by omega)]; exact ih) n.toNat 0 (by omega) (by omega) (by omega))
          exact ⟨fun z => ⟨(z v (by omega) hv).2, fun a a0 a1 => z a (by omega) a1⟩, fun z a a0 a1 => if ha : a = v then by subst ha; exact ⟨⟨by omega, ht⟩, z.1⟩ else z.2 a (by omega) a1⟩
end
theorem s_is (n : Int) (l : List Int) : Says (fun k => spec_l01Is.f k n l) (isG n l) := by
  have bad : ¬ isG n l → Says (fun k => spec_l01Is.j0 k true n l) (isG n l) := fun h => by
    refine says_k ?_
    simp only [spec_l01Is.j0]
    exact says_pos trivial (says_false h)
  unfold spec_l01Is.f
  rw [s_in]
  simp only [Option.bind_some]
  by_cases h1 : 1 ≤ n ∧ n ≤ 62
  · refine says_pos (decide_eq_true h1) ?_
    by_cases h2 : (l.length : Int) = n
    · refine says_k ?_
      simp only [spec_l01Is.j0]
      refine says_neg (by simp [h2]) ?_
      refine says_iff ?_ (s_is_l0 h1.1 h1.2 h2 n.toNat 0 (by omega) (by omega) (by omega))
      constructor
      · exact fun ⟨⟨_, _, _, r⟩, lo, sy⟩ => ⟨fun a a0 a1 => ⟨r a a0 a1, lo a a0 a1⟩, fun a a0 a1 b b0 b1 => sy a b a0 a1 b0 (by omega)⟩
      · intro ⟨z, sy⟩
        refine ⟨⟨h1.1, h1.2, h2, fun a a0 a1 => (z a a0 a1).1⟩, fun a a0 a1 => (z a a0 a1).2, fun a b a0 a1 b0 b1 => ?_⟩
        rcases Int.lt_trichotomy a b with h | h | h
        · exact (sy b b0 b1 a a0 h).symm
        · rw [h]
        · exact sy a a0 a1 b b0 h
    · rw [show ((l.length : Int) != n) = true by simpa using h2]
      exact bad fun z => h2 z.1.2.2.1
  · exact says_neg (by simpa using h1) (bad fun z => h1 ⟨z.1.1, z.1.2.1⟩)
theorem i_is (n : Int) (l : List Int) : Says (fun k => impl_IsGraph.f k n l) (isG n l) := by
  have bad : ¬ isG n l → Says (fun k => impl_IsGraph.j0 k n true n l) (isG n l) := fun h => by
    refine says_k ?_
    simp only [impl_IsGraph.j0]
    exact says_pos trivial (says_false h)
  unfold impl_IsGraph.f
  by_cases h1 : n < 1
  · exact says_pos h1 (bad fun z => by have := z.1.1; omega)
  · refine says_neg h1 ?_
    by_cases h2 : n > 62
    · exact says_pos h2 (bad fun z => by have := z.1.2.1; omega)
    · refine says_neg h2 ?_
      by_cases h3 : (l.length : Int) = n
      · refine says_k ?_
        simp only [impl_IsGraph.j0]
        refine says_neg (by simp [h3]) ?_
        have := i_is_l0 (n := n) (l := l) (by omega) (by omega) h3 n.toNat 0 (by omega) (by omega) (by omega)
        rw [h3]
        refine says_iff ?_ this
        constructor
        · exact fun ⟨⟨_, _, _, r⟩, lo, sy⟩ a a0 a1 => ⟨⟨r a a0 a1, lo a a0 a1⟩, fun b b0 b1 => sy a b a0 a1 b0 b1⟩
        · exact fun z => ⟨⟨by omega, by omega, h3, fun a a0 a1 => (z a a0 a1).1.1⟩, fun a a0 a1 => (z a a0 a1).1.2, fun a b a0 a1 b0 b1 => (z a a0 a1).2 b b0 b1⟩
      · rw [show ((l.length : Int) != n) = true by simpa using h3]
        exact bad fun z => h3 z.1.2.2.1
end Go.Proofs.Ytcffgfomicpbfaa.Q
namespace Go.Proofs.Ytcffgfomicpbfaa.Q
open Go Go.RowKit Go.Proofs.Ytcffgfomicpbfaa.P Go.Proofs.YtcffgfomicpbfaaW.PrintWords Go.Proofs.YtcffgfomicpbfaaW.PrintMore
theorem s_bits_l0 (n : Nat) : ∀ (x : Nat) (acc : Int), x < 2 ^ n → n ≤ 63 → 0 ≤ acc → acc + n < 4611686018427387904 → Ev (fun k => spec_l01Bits.l0 k (x : Int) acc) (acc + pc n x) := by
  induction n with
  | zero =>
    intro x acc hx _ _ _
    refine ev_k ?_
    simp only [spec_l01Bits.l0]
    exact ev_neg (by omega) (ev_some (by simp [pc]))
  | succ n ih =>
    intro x acc hx hn h0 h1
    refine ev_k ?_
    simp only [spec_l01Bits.l0]
    have e1 : Int.tdiv (x : Int) 2 = ((x / 2 : Nat) : Int) := by rw [Int.tdiv_eq_ediv_of_nonneg (by omega)]; omega
    have e2 : Int.tmod (x : Int) 2 = ((x % 2 : Nat) : Int) := by rw [Int.tmod_eq_emod_of_nonneg (by omega)]; omega
    have p : (2 : Nat) ^ n ≤ 2 ^ 62 := Nat.pow_le_pow_right (by decide) (by omega)
    rw [Nat.pow_succ] at hx
    by_cases h : (x : Int) > 0
    · refine ev_pos h ?_
      rw [e1, e2, w64 (a := ((x / 2 : Nat) : Int)) (by omega) (by omega), w64 (a := acc + ((x % 2 : Nat) : Int)) (by omega) (by omega)]
      have := ih (x / 2) (acc + ((x % 2 : Nat) : Int)) (by omega) (by omega) (by omega) (by omega)
      simp only [pc]
      rwa [show acc + (((x % 2 + pc n (x / 2) : Nat)) : Int) = acc + ((x % 2 : Nat) : Int) + (pc n (x / 2) : Nat) by omega]
    · refine ev_neg h (ev_some ?_)
      obtain rfl : x = 0 := by omega
      rw [pc_zero]
      simp
theorem s_bits (x : Nat) (hx : x < 2 ^ 62) : Ev (fun k => spec_l01Bits.f k (x : Int)) (pc 64 x : Nat) := by
  unfold spec_l01Bits.f
  have := s_bits_l0 62 x 0 hx (by omega) (by omega) (by omega)
  rw [pc_big hx (by omega : 62 ≤ 64)]
  rwa [Int.zero_add] at this
theorem i_size (x : Nat) (hx : x < 2 ^ 62) : impl_size.f (x : Int) = some ((pc 64 x : Nat) : Int) := by
  unfold impl_size.f bits_OnesCount64.f
  rw [wu64 (a := (x : Int)) (by omega) (by omega)]
  rw [(mA x (by omega)).1, (mB x (by omega)).1, mC]
  have b := sC_bound x
  have s := swar x
  have p := pc_le 64 x
  have e1 : ((sC 8 x : Nat) : Int) + ((sC 8 x : Nat) : Int) / 256 = ((sC 8 x + sC 8 x / 256 : Nat) : Int) := by omega
  rw [e1, wu64 (a := ((sC 8 x + sC 8 x / 256 : Nat) : Int)) (by omega) (by omega)]
  generalize sC 8 x + sC 8 x / 256 = y at *
  have e2 : ((y : Nat) : Int) + ((y : Nat) : Int) / 65536 = ((y + y / 65536 : Nat) : Int) := by omega
  rw [e2, wu64 (a := ((y + y / 65536 : Nat) : Int)) (by omega) (by omega)]
  generalize y + y / 65536 = z at *
  have e3 : ((z : Nat) : Int) + ((z : Nat) : Int) / 4294967296 = ((z + z / 4294967296 : Nat) : Int) := by omega
  rw [e3, wu64 (a := ((z + z / 4294967296 : Nat) : Int)) (by omega) (by omega), w64 (by omega) (by omega)]
  generalize z + z / 4294967296 = t at *
  have e4 : bits .and .i64 ((t : Nat) : Int) 127 = ((t % 128 : Nat) : Int) := by
    have := and_nat t 127 (by omega) (by decide)
    rw [show ((127 : Nat) : Int) = 127 from rfl] at this
    rw [this]
    have := Nat.and_two_pow_sub_one_eq_mod t 7
    simpa using congrArg (fun n : Nat => (n : Int)) this
  rw [e4, s]
  rfl
def deg (l : List Int) (v : Int) : Int := (pc 64 (rd l v).toNat : Nat)
theorem s_degree {n : Int} {l : List Int} (h : rows n l) {v : Int} (v0 : 0 ≤ v) (v1 : v < n) : Ev (fun k => spec_l01Degree.f k n l v) (deg l v) := by
  obtain ⟨x, e, _, hx⟩ := h.nat v0 v1
  have hn := h.2.2.1
  unfold spec_l01Degree.f deg
  rw [e, Int.toNat_natCast]
  exact ev_pos v0 (ev_pos (by omega) (Ev.bind (s_bits x hx) (Ev.now _)))
theorem i_degree {n : Int} {l : List Int} (h : rows n l) {v : Int} (v0 : 0 ≤ v) (v1 : v < n) : impl_Graph_degree.f n l v = some (deg l v) := by
  obtain ⟨x, e, _, hx⟩ := h.nat v0 v1
  have hn := h.2.2.1
  unfold impl_Graph_degree.f deg
  rw [e, Int.toNat_natCast, if_pos v0, if_pos (by omega), i_size x hx]
  rfl
def degs (l : List Int) (m : Nat) : List Int := (List.range m).map fun (j : Nat) => deg l (j : Int)
theorem degs_length (l : List Int) (m : Nat) : (degs l m).length = m := by simp [degs]
theorem degs_succ (l : List Int) (m : Nat) : degs l (m + 1) = degs l m ++ [deg l m] := by simp [degs, List.range_succ]
theorem degs_at (l : List Int) (m : Nat) (i : Int) (h0 : 0 ≤ i) (h1 : i < m) : rd (degs l m) i = deg l i := by
  have : i.toNat < m := by omega
  simp [rd, degs, List.getD_eq_getElem?_getD, this]
  congr 1
  omega
theorem i_degrees {n : Int} {l : List Int} (h : rows n l) : Ev (fun k => impl_Graph_degrees.f k n l) (degs l n.toNat) := by
  have n2 := h.2.1
  have loop : ∀ (d : Nat) (i : Nat), (i : Int) ≤ n → n - i = d → Ev (fun k => impl_Graph_degrees.l0 k (degs l i) n i n l) (degs l n.toNat) := by
    intro d
    induction d with
    | zero =>
      intro i h1 hd
      refine ev_k ?_
      simp only [impl_Graph_degrees.l0]
      refine ev_neg (by omega) (ev_some ?_)
      rw [show i = n.toNat by omega]
    | succ d ih =>
      intro i h1 hd
      refine ev_k ?_
      simp only [impl_Graph_degrees.l0, i_degree h (show (0 : Int) ≤ i by omega) (show (i : Int) < n by omega), Option.bind_some]
      refine ev_pos (by omega) (ev_pos (by rw [degs_length]; omega) ?_)
      rw [w64 (by omega) (by omega), ← degs_succ]
      exact ih (i + 1) (by omega) (by omega)
  unfold impl_Graph_degrees.f
  have := loop n.toNat 0 (by have := h.1; omega) (by have := h.1; omega)
  exact this
end Go.Proofs.Ytcffgfomicpbfaa.Q
namespace Go.Proofs.Ytcffgfomicpbfaa.Q
open Go Go.RowKit Go.Proofs.Ytcffgfomicpbfaa.P Go.Proofs.YtcffgfomicpbfaaW.PrintWords Go.Proofs.YtcffgfomicpbfaaW.PrintMore
def reg (n : Int) (l : List Int) : Prop := ∀ v, 0 ≤ v → v < n → deg l v = deg l 0
theorem s_regular {n : Int} {l : List Int} (h : rows n l) : ∃ r, Ev (fun k => spec_l01Regular.f k n l) r ∧ (reg n l → r = deg l 0) ∧ (¬ reg n l → r = -1) := by
  have n1 := h.1
  have n2 := h.2.1
  have loop : ∀ (d : Nat) (v : Int), 1 ≤ v → v ≤ n → n - v = d → (∀ w, 0 ≤ w → w < v → deg l w = deg l 0) → ∃ r, Ev (fun k => spec_l01Regular.l0 k v n l) r ∧ (reg n l → r = deg l 0) ∧ (¬ reg n l → r = -1) := by
    intro d
    induction d with
    | zero =>
      intro v v0 v1 hd hb
      refine ⟨deg l 0, ev_k ?_, fun _ => rfl, fun z => absurd (fun w w0 w1 => hb w w0 (by omega)) z⟩
      simp only [spec_l01Regular.l0]
      exact ev_neg (by omega) (Ev.bind (s_degree h (by omega) (by omega)) (Ev.now _))
    | succ d ih =>
      intro v v0 v1 hd hb
      by_cases hv : deg l v = deg l 0
      · obtain ⟨r, hr, h1, h2⟩ := ih (v + 1) (by omega) (by omega) (by omega) fun w w0 w1 => if e : w = v then by rw [e]; exact hv else hb w w0 (by omega)
        refine ⟨r, ev_k ?_, h1, h2⟩
        simp only [spec_l01Regular.l0]
        rw [w64 (a := v + 1) (by omega) (by omega)]
        exact ev_pos (by omega) (Ev.bind (s_degree h (by omega) (by omega)) (Ev.bind (s_degree h (by omega) (by omega)) (ev_pos hv hr)))
      · refine ⟨-1, ev_k ?_, fun z => absurd (z v (by omega) (by omega)) hv, fun _ => rfl⟩
        simp only [spec_l01Regular.l0]
        exact ev_pos (by omega) (Ev.bind (s_degree h (by omega) (by omega)) (Ev.bind (s_degree h (by omega) (by omega)) (ev_neg hv (Ev.now _))))
  unfold spec_l01Regular.f
  exact loop (n.toNat - 1) 1 (by omega) (by omega) (by omega) fun w w0 w1 => by rw [show w = 0 by omega]
theorem i_regular {n : Int} {l : List Int} (h : rows n l) : ∃ r, Ev (fun k => impl_Graph_regular.f k n l) r ∧ (reg n l → r = deg l 0) ∧ (¬ reg n l → r = -1) := by
  have n1 := h.1
  have n2 := h.2.1
  have hl := degs_length l n.toNat
  obtain ⟨a, ha, a1, j, j0, j1, ja⟩ := mins (degs l n.toNat) (by omega) (by omega)
  obtain ⟨b, hb, b1, i, i0, i1, ib⟩ := maxs (degs l n.toNat) (by omega) (by omega)
  have at' : ∀ v, 0 ≤ v → v < n → rd (degs l n.toNat) v = deg l v := fun v v0 v1 => degs_at l _ v v0 (by omega)
  have e : a = b ↔ reg n l := by
    constructor
    · intro e v v0 v1
      have p := a1 v v0 (by omega)
      have q := b1 v v0 (by omega)
      have p' := a1 0 (by omega) (by omega)
      have q' := b1 0 (by omega) (by omega)
      rw [at' v v0 v1] at p q
      rw [at' 0 (by omega) (by omega)] at p' q'
      omega
    · intro z
      rw [ja, ib, at' j j0 (by omega), at' i i0 (by omega), z j j0 (by omega), z i i0 (by omega)]
  by_cases hc : a = b
  · refine ⟨deg l 0, ?_, fun _ => rfl, fun z => absurd (e.1 hc) z⟩
    unfold impl_Graph_regular.f
    refine Ev.bind (i_degrees h) (Ev.bind ha (Ev.bind hb (ev_pos hc (ev_pos (by omega) ?_))))
    rw [at' 0 (by omega) (by omega)]
    exact Ev.now _
  · refine ⟨-1, ?_, fun z => absurd (e.2 z) hc, fun _ => rfl⟩
    unfold impl_Graph_regular.f
    exact Ev.bind (i_degrees h) (Ev.bind ha (Ev.bind hb (ev_neg hc (Ev.now _))))
theorem regulars {n : Int} {l : List Int} (h : rows n l) : ∃ r, Ev (fun k => spec_l01Regular.f k n l) r ∧ Ev (fun k => impl_Graph_regular.f k n l) r ∧ (reg n l → r = deg l 0) ∧ (¬ reg n l → r = -1) := by
  obtain ⟨r, hr, r1, r2⟩ := s_regular h
  obtain ⟨s, hs, s1, s2⟩ := i_regular h
  have : s = r := by
    by_cases z : reg n l
    · rw [r1 z, s1 z]
    · rw [r2 z, s2 z]
  exact ⟨r, hr, this ▸ hs, r1, r2⟩
end Go.Proofs.Ytcffgfomicpbfaa.Q
namespace Go.Proofs.Ytcffgfomicpbfaa.Q
open Go Go.RowKit Go.Proofs.Ytcffgfomicpbfaa.P Go.Proofs.YtcffgfomicpbfaaW.PrintWords Go.Proofs.YtcffgfomicpbfaaW.PrintMore
theorem rd_at (l : List Int) (i : Int) (h1 : i.toNat < l.length) : rd l i = l[i.toNat] := by
  simp [rd, List.getD_eq_getElem?_getD, List.getElem?_eq_getElem h1]
theorem toS_l0 (l : List Int) (hl : l.length < 9223372036854775807) (d : Nat) : ∀ (m : List Int) (i : Int), 0 ≤ i → i ≤ l.length → l.length - i = d → m.length = l.length → (∀ j, j < i.toNat → m[j]? = l[j]?) →
    Ev (fun k => laws_toInt64S.l0 k l m i) l := by
  induction d with
  | zero =>
    intro m i h0 h1 hd hm hj
    refine ev_k ?_
    simp only [laws_toInt64S.l0]
    refine ev_neg (by omega) (ev_some (List.ext_getElem? fun j => ?_))
    by_cases h : j < i.toNat
    · exact hj j h
    · rw [List.getElem?_eq_none (by omega), List.getElem?_eq_none (by omega)]
  | succ d ih =>
    intro m i h0 h1 hd hm hj
    refine ev_k ?_
    simp only [laws_toInt64S.l0]
    refine ev_pos (by omega) (ev_pos h0 (ev_pos (by omega) ?_))
    rw [w64 (a := i + 1) (by omega) (by omega)]
    refine ih _ (i + 1) (by omega) (by omega) (by omega) (by simpa using hm) fun j h => ?_
    rw [List.getElem?_set]
    split
    · subst_vars
      rw [if_pos (by omega), rd_at l i (by omega), List.getElem?_eq_getElem]
    · exact hj j (by omega)
theorem toS (l : List Int) (hl : l.length ≤ 35184372088832) : Ev (fun k => laws_toInt64S.f k l) l := by
  unfold laws_toInt64S.f
  refine ev_pos (by omega) (ev_pos (by omega) ?_)
  exact toS_l0 l (by omega) l.length _ 0 (by omega) (by omega) (by omega) (by simp) (fun j h => by simp at h)
theorem eqS_l0 (l m : List Int) (e : l.length = m.length) (hl : l.length < 9223372036854775807) (d : Nat) : ∀ (i : Int), 0 ≤ i → i ≤ l.length → l.length - i = d →
    Ev (fun k => laws_eqInt64S.l0 k l m i) (decide (l.drop i.toNat = m.drop i.toNat)) := by
  have dc : ∀ (l : List Int) (i : Int), 0 ≤ i → i < l.length → l.drop i.toNat = rd l i :: l.drop (i + 1).toNat := fun l i h0 h1 => by
    rw [List.drop_eq_getElem_cons (by omega : i.toNat < l.length), show (i + 1).toNat = i.toNat + 1 by omega, rd_at l i (by omega)]
  induction d with
  | zero =>
    intro i h0 h1 hd
    refine ev_k ?_
    simp only [laws_eqInt64S.l0]
    refine ev_neg (by omega) (ev_some ?_)
    rw [List.drop_of_length_le (by omega), List.drop_of_length_le (by omega)]
    rfl
  | succ d ih =>
    intro i h0 h1 hd
    refine ev_k ?_
    simp only [laws_eqInt64S.l0]
    refine ev_pos (by omega) (ev_pos h0 (ev_pos (by omega) ?_))
    rw [w64 (a := i + 1) (by omega) (by omega), dc l i h0 (by omega), dc m i h0 (by omega)]
    by_cases h : rd l i = rd m i
    · refine ev_pos h ?_
      simp only [List.cons.injEq, h, true_and]
      exact ih (i + 1) (by omega) (by omega) (by omega)
    · refine ev_neg h (ev_some ?_)
      simp [h]
theorem eqS (l m : List Int) (hl : l.length < 9223372036854775807) : Ev (fun k => laws_eqInt64S.f k l m) (decide (l = m)) := by
  unfold laws_eqInt64S.f
  by_cases e : l.length = m.length
  · refine ev_pos (by omega) ?_
    simpa using eqS_l0 l m e hl l.length 0 (by omega) (by omega) (by omega)
  · refine ev_neg (by omega) (ev_some ?_)
    exact (decide_eq_false fun h => e (by rw [h])).symm
theorem eqS_self (l : List Int) (hl : l.length < 9223372036854775807) : Ev (fun k => laws_eqInt64S.f k l l) true := by
  simpa using eqS l l hl
theorem szS (l : List Int) (hl : l.length ≤ maxLen) : laws_szInt64S.f l 1048576 = some (if l.length ≤ 1048576 then 1048576 - (l.length : Int) else -1) := by
  unfold maxLen at hl
  unfold laws_szInt64S.f
  rw [w64 (by omega) (by omega)]
  by_cases h : l.length ≤ 1048576
  · rw [if_neg (by omega), if_pos h]
  · rw [if_pos (by omega), if_neg h]
def marks (a : Int) (n : Nat) : List Int := (List.range n).map fun (j : Nat) => a + (j : Int)
theorem marks_length (a : Int) (n : Nat) : (marks a n).length = n := by simp [marks]
theorem marks_at (a : Int) (n j : Nat) (h : j < n) : (marks a n)[j]? = some (a + j) := by
  simp [marks, h]
theorem mark_l0 (n : Nat) (a : Int) (ha : 0 ≤ a) (hn : a + n < 9223372036854775807) (d : Nat) : ∀ (m : List Int) (i : Int), 0 ≤ i → i ≤ n → n - i = d → m.length = n → (∀ j, j < i.toNat → m[j]? = some (a + j)) →
    Ev (fun k => laws_markInt64S.l0 k m (a + i) i) (a + n, marks a n) := by
  induction d with
  | zero =>
    intro m i h0 h1 hd hm hj
    refine ev_k ?_
    simp only [laws_markInt64S.l0]
    refine ev_neg (by omega) (ev_some ?_)
    have : m = marks a n := by
      refine List.ext_getElem? fun j => ?_
      by_cases h : j < n
      · rw [hj j (by omega), marks_at a n j h]
      · rw [List.getElem?_eq_none (by omega), List.getElem?_eq_none (by rw [marks_length]; omega)]
    rw [this, show i = n by omega]
  | succ d ih =>
    intro m i h0 h1 hd hm hj
    refine ev_k ?_
    simp only [laws_markInt64S.l0]
    refine ev_pos (by omega) (ev_pos h0 ?_)
    rw [w64 (a := i + 1) (by omega) (by omega), w64 (a := a + i + 1) (by omega) (by omega), show a + i + 1 = a + (i + 1) by omega]
    refine ih _ (i + 1) (by omega) (by omega) (by omega) (by simpa using hm) fun j h => ?_
    rw [List.getElem?_set]
    split
    · subst_vars
      rw [if_pos (by omega), Int.toNat_of_nonneg h0]
    · exact hj j (by omega)
theorem markS (l : List Int) (a : Int) (ha : 0 ≤ a) (hn : a + l.length < 9223372036854775807) : Ev (fun k => laws_markInt64S.f k l a) (a + l.length, marks a l.length) := by
  unfold laws_markInt64S.f
  have h := mark_l0 l.length a ha hn l.length l 0 (by omega) (by omega) (by omega) rfl (fun j h => by simp at h)
  rwa [Int.add_zero] at h
theorem held_l0 (n : Nat) (a : Int) (ha : 0 ≤ a) (hn : a + n < 9223372036854775807) (d : Nat) : ∀ (i : Int), 0 ≤ i → i ≤ n → n - i = d →
    Ev (fun k => laws_heldInt64S.l0 k (marks a n) (a + i) i) (a + n) := by
  induction d with
  | zero =>
    intro i h0 h1 hd
    refine ev_k ?_
    simp only [laws_heldInt64S.l0]
    exact ev_neg (by rw [marks_length]; omega) (ev_some (by omega))
  | succ d ih =>
    intro i h0 h1 hd
    refine ev_k ?_
    simp only [laws_heldInt64S.l0]
    refine ev_pos (by rw [marks_length]; omega) (ev_pos h0 (ev_pos ?_ ?_))
    · have := marks_at a n i.toNat (by omega)
      simp only [rd, List.getD_eq_getElem?_getD, this, Option.getD_some]
      omega
    · rw [w64 (a := i + 1) (by omega) (by omega), w64 (a := a + i + 1) (by omega) (by omega), show a + i + 1 = a + (i + 1) by omega]
      exact ih (i + 1) (by omega) (by omega) (by omega)
theorem heldS (n : Nat) (a : Int) (ha : 0 ≤ a) (hn : a + n < 9223372036854775807) : Ev (fun k => laws_heldInt64S.f k (marks a n) a) (a + n) := by
  unfold laws_heldInt64S.f
  have h := held_l0 n a ha hn n 0 (by omega) (by omega) (by omega)
  rwa [Int.add_zero] at h
end Go.Proofs.Ytcffgfomicpbfaa.Q
namespace Go.Proofs.Ytcffgfomicpbfaa.Q
open Go Go.RowKit Go.Proofs.Ytcffgfomicpbfaa.P Go.Proofs.YtcffgfomicpbfaaW.PrintWords Go.Proofs.YtcffgfomicpbfaaW.PrintMore
theorem szG (n : Int) (l : List Int) (hl : l.length ≤ maxLen) : laws_szGraph.f n l 1048576 = some (if l.length ≤ 1048576 then 1048576 - (l.length : Int) else -1) := by
  unfold laws_szGraph.f
  rw [szS l hl]
  simp only [Option.bind_some]
  by_cases h : l.length ≤ 1048576
  · rw [if_pos h, if_neg (by omega)]
  · rw [if_neg h, if_pos (by decide)]
theorem toG (n : Int) (l : List Int) (hl : l.length ≤ 1048576) : Ev (fun m => laws_toGraph.f m n l) (n, l) := by
  unfold laws_toGraph.f
  exact Ev.bind (toS l (by omega)) (Ev.now _)
theorem eqG (n : Int) (l : List Int) (hl : l.length ≤ 1048576) : Ev (fun m => laws_eqGraph.f m n l n l) true := by
  unfold laws_eqGraph.f
  exact ev_pos rfl (Ev.bind (eqS_self l (by omega)) (ev_pos rfl (Ev.now _)))
theorem markG (n : Int) (l : List Int) (hl : l.length ≤ 1048576) : Ev (fun m => laws_markGraph.f m n l 1) (1 + (l.length : Int), marks 1 l.length) := by
  unfold laws_markGraph.f
  exact Ev.bind (markS l 1 (by omega) (by omega)) (Ev.now _)
end Go.Proofs.Ytcffgfomicpbfaa.Q
namespace Go.Proofs.Ytcffgfomicpbfaa.Pure
open Go Go.RowKit Go.Proofs.Ytcffgfomicpbfaa.P Go.Proofs.YtcffgfomicpbfaaW.PrintWords Go.Proofs.YtcffgfomicpbfaaW.PrintLast Go.Proofs.Ytcffgfomicpbfaa.Q
def Alike (f g : Nat → Option (List Int × Int)) : Prop := ∃ r c, r.length ≤ 4 ∧ Ev f (r, c) ∧ Ev g (r, c)
theorem alike_bits {n : Int} {l : List Int} (h : rows n l) {v w : Int} (v0 : 0 ≤ v) (v1 : v < n) (w0 : 0 ≤ w) (w1 : w < n) : ∃ m : Int, Ev (fun k => spec_l01Bits.f k (bits .and .i64 (rd l v) (rd l w))) m ∧ impl_size.f (bits .and .i64 (rd l v) (rd l w)) = some m := by
  obtain ⟨x, e, _, hx⟩ := h.nat v0 v1
  obtain ⟨y, e', _, hy⟩ := h.nat w0 w1
  rw [e, e', and_nat x y (by omega) (by omega)]
  have : x &&& y < 2 ^ 62 := Nat.lt_of_le_of_lt Nat.and_le_left hx
  exact ⟨_, s_bits _ this, i_size _ this⟩
theorem inner {n : Int} {l : List Int} (h : rows n l) (t : Int) {v : Int} (v0 : 0 ≤ v) (v1 : v < n) (next : ∀ a b : Int, Alike (fun k => spec_ParametersOf.l0 k t [a, b] (v + 1) n l) (fun k => impl_ParametersOf.l0 k t [b, a] n (v + 1) n l)) (d : Nat) :
    ∀ (w a b : Int), 0 ≤ w → w + d = v → Alike (fun k => spec_ParametersOf.l1 k t [a, b] v w n l) (fun k => impl_ParametersOf.l1 k t [b, a] v n v v w n l) := by
  have n2 := h.2.1
  have hl := h.2.2.1
  induction d with
  | zero =>
    intro w a b w0 hw
    obtain ⟨r, c, hr, h1, h2⟩ := next a b
    refine ⟨r, c, hr, ev_k ?_, ev_k ?_⟩
    · simp only [spec_ParametersOf.l1]
      rw [w64 (a := v + 1) (by omega) (by omega)]
      exact ev_neg (by omega) h1
    · simp only [impl_ParametersOf.l1]
      rw [w64 (a := v + 1) (by omega) (by omega)]
      exact ev_neg (by omega) h2
  | succ d ih =>
    intro w a b w0 hw
    obtain ⟨m, hs, hi⟩ := alike_bits h v0 v1 w0 (by omega)
    have sw : IntKind.u64.wrap w = w := wu64 w0 (by omega)
    have bit := bit_at (x := rd l v) w0 (show w ≤ 63 by omega)
    have sS : ∀ q, Ev (fun k => if 0 ≤ wrap64 (1 - (if tb (rd l v) w then 1 else 0)) then (if wrap64 (1 - (if tb (rd l v) w then 1 else 0)) < (([a, b] : List Int).length : Int) then (if rd [a, b] (wrap64 (1 - (if tb (rd l v) w then 1 else 0))) ≥ 0 then (if rd [a, b] (wrap64 (1 - (if tb (rd l v) w then 1 else 0))) = m then spec_ParametersOf.l1 k t (([a, b] : List Int).set ((wrap64 (1 - (if tb (rd l v) w then 1 else 0))) : Int).toNat m) v (wrap64 (w + 1)) n l else some (([] : List Int), 4)) else spec_ParametersOf.l1 k t (([a, b] : List Int).set ((wrap64 (1 - (if tb (rd l v) w then 1 else 0))) : Int).toNat m) v (wrap64 (w + 1)) n l) else none) else none) q → Ev (fun k => spec_ParametersOf.l1 k t [a, b] v w n l) q := by
      intro q hq
      refine ev_k ?_
      simp only [spec_ParametersOf.l1, sw, bit]
      exact ev_pos (by omega) (ev_pos v0 (ev_pos (by omega) (ev_pos w0 (ev_pos w0 (ev_pos (by omega) (Ev.bind hs hq))))))
    have iS : ∀ q, Ev (fun k => if 0 ≤ (if tb (rd l v) w then (1 : Int) else 0) then (if (if tb (rd l v) w then (1 : Int) else 0) < 2 then (if rd [b, a] (if tb (rd l v) w then 1 else 0) < 0 then ((some (([b, a] : List Int).set ((if tb (rd l v) w then 1 else 0) : Int).toNat m : List Int)).bind fun y => if rd y (if tb (rd l v) w then 1 else 0) = m then impl_ParametersOf.l1 k t y v n v v (wrap64 (w + 1)) n l else some (([] : List Int), 4)) else (if rd [b, a] (if tb (rd l v) w then 1 else 0) = m then impl_ParametersOf.l1 k t [b, a] v n v v (wrap64 (w + 1)) n l else some (([] : List Int), 4))) else none) else none) q → Ev (fun k => impl_ParametersOf.l1 k t [b, a] v n v v w n l) q := by
      intro q hq
      refine ev_k ?_
      simp only [impl_ParametersOf.l1, bit]
      exact ev_pos (by omega) (ev_pos v0 (ev_pos (by omega) (ev_pos w0 (ev_pos (by omega) (ev_bind0 hi hq)))))
    rw [w64 (a := w + 1) (by omega) (by omega)] at sS iS
    by_cases tbv : tb (rd l v) w = true
    · simp only [if_pos tbv] at sS iS
      have e0 : wrap64 (1 - 1) = 0 := w64 (by omega) (by omega)
      rw [e0] at sS
      have r0 : rd [a, b] 0 = a := rfl
      have r1 : rd [b, a] 1 = a := rfl
      by_cases ha : a < 0
      · obtain ⟨r, c, hr, h1, h2⟩ := ih (w + 1) m b (by omega) (by omega)
        exact ⟨r, c, hr, sS _ (ev_pos (by omega) (ev_pos (by simp) (ev_neg (by rw [r0]; omega) h1))), iS _ (ev_pos (by omega) (ev_pos (by omega) (ev_pos (by rw [r1]; omega) (ev_bind0 rfl (ev_pos rfl h2)))))⟩
      · by_cases he : a = m
        · subst he
          obtain ⟨r, c, hr, h1, h2⟩ := ih (w + 1) a b (by omega) (by omega)
          exact ⟨r, c, hr, sS _ (ev_pos (by omega) (ev_pos (by simp) (ev_pos (by rw [r0]; omega) (ev_pos r0 h1)))), iS _ (ev_pos (by omega) (ev_pos (by omega) (ev_neg (by rw [r1]; omega) (ev_pos r1 h2))))⟩
        · exact ⟨[], 4, by simp, sS _ (ev_pos (by omega) (ev_pos (by simp) (ev_pos (by rw [r0]; omega) (ev_neg (by rw [r0]; exact he) (Ev.now _))))), iS _ (ev_pos (by omega) (ev_pos (by omega) (ev_neg (by rw [r1]; omega) (ev_neg (by rw [r1]; exact he) (Ev.now _)))))⟩
    · simp only [if_neg tbv] at sS iS
      have e0 : wrap64 (1 - 0) = 1 := w64 (by omega) (by omega)
      rw [e0] at sS
      have r0 : rd [a, b] 1 = b := rfl
      have r1 : rd [b, a] 0 = b := rfl
      by_cases ha : b < 0
      · obtain ⟨r, c, hr, h1, h2⟩ := ih (w + 1) a m (by omega) (by omega)
        exact ⟨r, c, hr, sS _ (ev_pos (by omega) (ev_pos (by simp) (ev_neg (by rw [r0]; omega) h1))), iS _ (ev_pos (by omega) (ev_pos (by omega) (ev_pos (by rw [r1]; omega) (ev_bind0 rfl (ev_pos rfl h2)))))⟩
      · by_cases he : b = m
        · subst he
          obtain ⟨r, c, hr, h1, h2⟩ := ih (w + 1) a b (by omega) (by omega)
          exact ⟨r, c, hr, sS _ (ev_pos (by omega) (ev_pos (by simp) (ev_pos (by rw [r0]; omega) (ev_pos r0 h1)))), iS _ (ev_pos (by omega) (ev_pos (by omega) (ev_neg (by rw [r1]; omega) (ev_pos r1 h2))))⟩
        · exact ⟨[], 4, by simp, sS _ (ev_pos (by omega) (ev_pos (by simp) (ev_pos (by rw [r0]; omega) (ev_neg (by rw [r0]; exact he) (Ev.now _))))), iS _ (ev_pos (by omega) (ev_pos (by omega) (ev_neg (by rw [r1]; omega) (ev_neg (by rw [r1]; exact he) (Ev.now _)))))⟩
theorem outer {n : Int} {l : List Int} (h : rows n l) (t : Int) (d : Nat) : ∀ (v a b : Int), 0 ≤ v → v + d = n → Alike (fun k => spec_ParametersOf.l0 k t [a, b] v n l) (fun k => impl_ParametersOf.l0 k t [b, a] n v n l) := by
  induction d with
  | zero =>
    intro v a b v0 hv
    refine ⟨[n, t, a, b], 0, by simp, ev_k ?_, ev_k ?_⟩
    · simp only [spec_ParametersOf.l0]
      exact ev_neg (by omega) (ev_pos (by simp) (ev_pos (by simp) (ev_some rfl)))
    · simp only [impl_ParametersOf.l0]
      exact ev_neg (by omega) (ev_some rfl)
  | succ d ih =>
    intro v a b v0 hv
    obtain ⟨r, c, hr, h1, h2⟩ := inner h t v0 (by omega) (fun a b => ih (v + 1) a b (by omega) (by omega)) v.toNat 0 a b (by omega) (by omega)
    refine ⟨r, c, hr, ev_k ?_, ev_k ?_⟩
    · simp only [spec_ParametersOf.l0]
      exact ev_pos (by omega) h1
    · simp only [impl_ParametersOf.l0]
      exact ev_pos (by omega) h2
theorem both (n : Int) (l : List Int) : ∃ r c, r.length ≤ 4 ∧ Ev (fun m => spec_ParametersOf.f m n l) (r, c) ∧ Ev (fun m => impl_ParametersOf.f m n l) (r, c) := by
  unfold spec_ParametersOf.f impl_ParametersOf.f
  by_cases hg : isG n l
  · obtain ⟨t, h1, h2, _, _⟩ := regulars hg.1
    have j : ∀ b : Bool, Alike (fun k => spec_ParametersOf.j0 k t [-1, -1] b n l) (fun k => impl_ParametersOf.j0 k t b n l) := by
      intro b
      cases b with
      | true =>
        refine ⟨[], 4, by simp, ev_k ?_, ev_k ?_⟩
        · simp only [spec_ParametersOf.j0]
          exact ev_pos trivial (Ev.now _)
        · simp only [impl_ParametersOf.j0]
          exact ev_pos trivial (Ev.now _)
      | false =>
        obtain ⟨r, c, hr, a1, a2⟩ := outer hg.1 t n.toNat 0 (-1) (-1) (by omega) (by have := hg.1.1; omega)
        refine ⟨r, c, hr, ev_k ?_, ev_k ?_⟩
        · simp only [spec_ParametersOf.j0]
          exact ev_neg (by simp) a1
        · simp only [impl_ParametersOf.j0]
          exact ev_neg (by simp) a2
    by_cases ht : t < 1
    · obtain ⟨r, c, hr, a1, a2⟩ := j true
      exact ⟨r, c, hr, Ev.bind ((s_is n l).yes hg) (ev_pos rfl (Ev.bind h1 (ev_bind0 rfl (ev_pos ht a1)))), Ev.bind ((i_is n l).yes hg) (ev_pos rfl (Ev.bind h2 (ev_pos ht a2)))⟩
    · obtain ⟨r, c, hr, a1, a2⟩ := j (t == wrap64 (n - 1))
      exact ⟨r, c, hr, Ev.bind ((s_is n l).yes hg) (ev_pos rfl (Ev.bind h1 (ev_bind0 rfl (ev_neg ht a1)))), Ev.bind ((i_is n l).yes hg) (ev_pos rfl (Ev.bind h2 (ev_neg ht a2)))⟩
  · exact ⟨[], 1, by simp, Ev.bind ((s_is n l).no hg) (ev_neg (by decide) (Ev.now _)), Ev.bind ((i_is n l).no hg) (ev_neg (by decide) (Ev.now _))⟩
theorem FnExactParametersOf : ∀ (a0_0 : Int) (l0_1 : List Int), (Lit.int .i64 a0_0).wf = true → l0_1.length ≤ maxLen → (∀ x ∈ l0_1, (Lit.int .i64 x).wf = true) → ∃ k, laws_FnExactParametersOf.f k a0_0 l0_1 = some true := by
  intro n l _ hl _
  refine Ev.rounds ?_
  unfold laws_FnExactParametersOf.f
  rw [szG n l hl]
  simp only [Option.bind_some]
  by_cases hs : l.length ≤ 1048576
  · rw [if_pos hs]
    refine ev_neg (by omega) ?_
    obtain ⟨r, c, hr, h1, h2⟩ := both n l
    have er := eqS_self r (by omega)
    have tg := toG n l hs
    refine Ev.bind tg (Ev.bind h1 (Ev.bind tg (Ev.bind h2 (Ev.bind er (ev_pos rfl ?_)))))
    refine ev_k ?_
    simp only [laws_FnExactParametersOf.j0]
    refine ev_neg (by simp) (Ev.bind tg (Ev.bind (eqG n l hs) (ev_pos rfl (Ev.bind (markG n l hs) (ev_neg (by simp only []; omega) (Ev.bind er (ev_pos rfl ?_)))))))
    refine ev_k ?_
    simp only [laws_FnExactParametersOf.j1]
    refine ev_neg (by simp) (Ev.bind (markS r 1 (by omega) (by omega)) (Ev.bind (heldS r.length 1 (by omega) (by omega)) (ev_neg (by omega) (ev_pos rfl ?_))))
    refine Ev.bind tg (Ev.bind h2 (Ev.bind er (ev_pos rfl ?_)))
    refine ev_k ?_
    simp only [laws_FnExactParametersOf.j2]
    exact ev_neg (by simp) (Ev.bind (heldS r.length 1 (by omega) (by omega)) (ev_neg (by omega) (ev_pos rfl (Ev.now _))))
  · rw [if_neg hs]
    exact ev_pos (by decide) (Ev.now _)
end Go.Proofs.Ytcffgfomicpbfaa.Pure
