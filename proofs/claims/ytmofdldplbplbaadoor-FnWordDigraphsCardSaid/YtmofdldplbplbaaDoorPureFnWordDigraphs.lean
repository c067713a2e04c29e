/- The pure law and what it leans on, in one text (wip/bin/bundle). -/
import Derived.Test.YtmofdldplbplbaaDoorMFWD1
import Derived.Test.YtmofdldplbplbaaDoorMFWD2
import Derived.Test.YtmofdldplbplbaaDoorMFWD3
import Derived.Test.YtmofdldplbplbaaDoorMFWD4
import Derived.Test.YtmofdldplbplbaaDoorMFWD11
import Derived.Test.YtmofdldplbplbaaDoorMFWD12
import Derived.Test.YtmofdldplbplbaaDoorMFWD14
import Derived.Test.YtmofdldplbplbaaDoorMFWD15
import Derived.Test.YtmofdldplbplbaaDoorMFWD6
import Derived.Test.YtmofdldplbplbaaDoorMFWD8
import Derived.Test.YtmofdldplbplbaaDoorMFWD9
import Derived.Test.YtmofdldplbplbaaDoorMFWD10
import Derived.Test.YtmofdldplbplbaaDoorWA
import Derived.Test.YtmofdldplbplbaaDoorWBMore
import Derived.Laws.BitsLemmas
import Derived.Test.YtmofdldplbplbaaDoorMFWD5
import Derived.Test.YtmofdldplbplbaaDoorMFWD7
import Derived.Lib.TrailingZeros
import Derived.Test.YtmofdldplbplbaaDoorMFWD13
set_option linter.unusedVariables false
set_option linter.unusedSimpArgs false
namespace Go.Proofs.YtmofdldplbplbaaDoor.Q
open Go Go.RowKit Go.Proofs.YtmofdldplbplbaaDoorW.PrintWords Go.Proofs.YtmofdldplbplbaaDoorW.PrintMore
theorem ev_k {α : Type} {g : Nat → Option α} {r : α} (h : Ev (fun k => g (k + 1)) r) : Ev g r := Ev.step (fun _ => rfl) h
theorem ev_some {α : Type} {r s : α} (h : r = s) : Ev (fun _ => some r) s := h ▸ Ev.now r
theorem ev_pos {α : Type} {c : Prop} [Decidable c] {f g : Nat → Option α} {r : α} (h : c) (H : Ev f r) : Ev (fun k => if c then f k else g k) r :=
  Ev.congr (fun _ => if_pos h) H
theorem ev_neg {α : Type} {c : Prop} [Decidable c] {f g : Nat → Option α} {r : α} (h : ¬ c) (H : Ev g r) : Ev (fun k => if c then f k else g k) r :=
  Ev.congr (fun _ => if_neg h) H
theorem ev_ite {α : Type} {c : Prop} [Decidable c] {f g : Nat → Option α} {r : α} (h : c → Ev f r) (h' : ¬ c → Ev g r) : Ev (fun k => if c then f k else g k) r := by
  by_cases hc : c
  · exact ev_pos hc (h hc)
  · exact ev_neg hc (h' hc)
theorem ev_of {α : Type} {o : Option α} {r : α} (h : o = some r) : Ev (fun _ => o) r := ⟨0, fun _ _ => h⟩
theorem ev_bind0 {α β : Type} {o : Option α} {f : Nat → α → Option β} {a : α} {r : β} (h : o = some a) (H : Ev (fun n => f n a) r) : Ev (fun n => o.bind (f n)) r :=
  Ev.bind (ev_of h) H
theorem ev_uniq {α : Type} {g : Nat → Option α} {a b : α} (h : Ev g a) (k : Ev g b) : a = b := by
  obtain ⟨m, h⟩ := h
  obtain ⟨n, k⟩ := k
  exact Option.some.inj ((h (m + n) (by omega)).symm.trans (k (m + n) (by omega)))
theorem w64 {a : Int} (h0 : -9223372036854775808 ≤ a) (h1 : a < 9223372036854775808) : wrap64 a = a := by
  unfold wrap64
  omega
def Says (g : Nat → Option Bool) (P : Prop) : Prop := ∃ b : Bool, Ev g b ∧ (b = true ↔ P)
theorem says_iff {g : Nat → Option Bool} {P R : Prop} (h : P ↔ R) (H : Says g R) : Says g P := by
  obtain ⟨b, hb, e⟩ := H
  exact ⟨b, hb, e.trans h.symm⟩
theorem says_k {g : Nat → Option Bool} {P : Prop} (H : Says (fun k => g (k + 1)) P) : Says g P := by
  obtain ⟨b, hb, e⟩ := H
  exact ⟨b, ev_k hb, e⟩
theorem says_pos {c : Prop} [Decidable c] {f g : Nat → Option Bool} {P : Prop} (h : c) (H : Says f P) : Says (fun k => if c then f k else g k) P := by
  obtain ⟨b, hb, e⟩ := H
  exact ⟨b, ev_pos h hb, e⟩
theorem says_neg {c : Prop} [Decidable c] {f g : Nat → Option Bool} {P : Prop} (h : ¬ c) (H : Says g P) : Says (fun k => if c then f k else g k) P := by
  obtain ⟨b, hb, e⟩ := H
  exact ⟨b, ev_neg h hb, e⟩
theorem says_true {P : Prop} (h : P) : Says (fun _ => some true) P := ⟨true, Ev.now _, by simp [h]⟩
theorem says_false {P : Prop} (h : ¬ P) : Says (fun _ => some false) P := ⟨false, Ev.now _, by simp [h]⟩
theorem Says.yes {g : Nat → Option Bool} {P : Prop} (H : Says g P) (h : P) : Ev g true := by
  obtain ⟨b, hb, e⟩ := H
  rw [e.2 h] at hb
  exact hb
theorem Says.no {g : Nat → Option Bool} {P : Prop} (H : Says g P) (h : ¬ P) : Ev g false := by
  obtain ⟨b, hb, e⟩ := H
  cases b with
  | true => exact absurd (e.1 rfl) h
  | false => exact hb
end Go.Proofs.YtmofdldplbplbaaDoor.Q
namespace Go.Proofs.YtmofdldplbplbaaDoor.Q
open Go Go.RowKit Go.Proofs.YtmofdldplbplbaaDoorW.PrintWords Go.Proofs.YtmofdldplbplbaaDoorW.PrintLast Go.Proofs.YtmofdldplbplbaaDoorW.PrintMore
def tb (x i : Int) : Bool := decide (x / 2 ^ i.toNat % 2 = 1)
theorem wu64 {a : Int} (h0 : 0 ≤ a) (h1 : a < 18446744073709551616) : IntKind.u64.wrap a = a := by
  simp [IntKind.wrap, IntKind.bits, IntKind.signed]
  omega
theorem w64' (a : Int) : IntKind.i64.wrap a = wrap64 a := by
  rw [IntKind.wrap_i64]
  unfold wrap64
  rfl
theorem and_one (a : Int) : bits .and .i64 a 1 = a % 2 := by
  have e : (BitVec.ofInt 64 a &&& BitVec.ofInt 64 1).toNat = (a % 2).toNat := by
    rw [BitVec.toNat_and, show (BitVec.ofInt 64 1).toNat = 1 from rfl, Nat.and_one_is_mod, BitVec.toNat_ofInt]
    omega
  show IntKind.i64.wrap (((BitVec.ofInt 64 a &&& BitVec.ofInt 64 1).toNat : Nat) : Int) = a % 2
  rw [e, w64']
  rw [w64] <;> omega
theorem shr_at {x i : Int} (i0 : 0 ≤ i) (i1 : i ≤ 63) : shr .i64 x i = x / 2 ^ i.toNat := by
  unfold shr
  rw [Nat.min_eq_left (by simp [IntKind.bits]; omega)]
theorem bit_at {x i : Int} (i0 : 0 ≤ i) (i1 : i ≤ 63) : bits .and .i64 (shr .i64 x i) 1 = if tb x i then 1 else 0 := by
  rw [and_one, shr_at i0 i1]
  unfold tb
  have := Int.emod_two_eq (x / 2 ^ i.toNat)
  rcases this with h | h <;> simp [h]
theorem bit_is {x i : Int} (i0 : 0 ≤ i) (i1 : i ≤ 63) : (bits .and .i64 (shr .i64 x i) 1 == 1) = tb x i := by
  rw [bit_at i0 i1]
  cases tb x i <;> rfl
theorem two_pow_le {n : Int} (h0 : 0 ≤ n) (h1 : n ≤ 62) : (1 : Int) ≤ 2 ^ n.toNat ∧ (2 : Int) ^ n.toNat ≤ 4611686018427387904 := by
  have e : ((2 : Int) ^ n.toNat) = ((2 ^ n.toNat : Nat) : Int) := by simp
  have a : 2 ^ n.toNat ≤ 2 ^ 62 := Nat.pow_le_pow_right (by decide) (by omega)
  have b : 1 ≤ 2 ^ n.toNat := Nat.one_le_two_pow
  rw [e]
  omega
theorem shl_one {n : Int} (h0 : 0 ≤ n) (h1 : n ≤ 62) : shl .i64 1 n = 2 ^ n.toNat := by
  have := two_pow_le h0 h1
  unfold shl
  rw [Nat.min_eq_left (by simp [IntKind.bits]; omega), Int.one_mul, w64', w64] <;> omega
theorem tb_nat (x i : Nat) : tb (x : Int) (i : Int) = x.testBit i := by
  unfold tb
  rw [Nat.testBit_eq_decide_div_mod_eq]
  have : ((x : Int) / 2 ^ i) % 2 = ((x / 2 ^ i % 2 : Nat) : Int) := by simp
  rw [Int.toNat_natCast, this]
  exact decide_eq_decide.2 (by omega)
theorem tb_toNat {x i : Int} (h0 : 0 ≤ x) (i0 : 0 ≤ i) : tb x i = x.toNat.testBit i.toNat := by
  rw [← tb_nat, Int.toNat_of_nonneg h0, Int.toNat_of_nonneg i0]
theorem tb_high {x i n : Int} (h0 : 0 ≤ x) (h1 : x < 2 ^ n.toNat) (n0 : 0 ≤ n) (hi : n ≤ i) : tb x i = false := by
  rw [tb_toNat h0 (by omega)]
  refine Nat.testBit_lt_two_pow ?_
  have e : ((2 : Int) ^ n.toNat) = ((2 ^ n.toNat : Nat) : Int) := by simp
  rw [e] at h1
  have : x.toNat < 2 ^ n.toNat := by omega
  exact Nat.lt_of_lt_of_le this (Nat.pow_le_pow_right (by decide) (by omega))
theorem tb_ext {x y n : Int} (x0 : 0 ≤ x) (x1 : x < 2 ^ n.toNat) (y0 : 0 ≤ y) (y1 : y < 2 ^ n.toNat) (n0 : 0 ≤ n) (h : ∀ i, 0 ≤ i → i < n → tb x i = tb y i) : x = y := by
  have : x.toNat = y.toNat := by
    refine Nat.eq_of_testBit_eq fun i => ?_
    by_cases hi : (i : Int) < n
    · have := h i (by omega) hi
      rwa [tb_toNat x0 (by omega), tb_toNat y0 (by omega), Int.toNat_natCast] at this
    · have a := tb_high (i := i) x0 x1 n0 (by omega)
      have b := tb_high (i := i) y0 y1 n0 (by omega)
      rw [tb_toNat x0 (by omega), Int.toNat_natCast] at a
      rw [tb_toNat y0 (by omega), Int.toNat_natCast] at b
      rw [a, b]
  omega
theorem and_nat (a b : Nat) (ha : a < 2 ^ 63) (hb : b < 2 ^ 63) : bits .and .i64 a b = ((a &&& b : Nat) : Int) :=
  (bits_nat .i64 63 (by decide) (fun n h0 h1 => by rw [w64', w64] <;> omega) a b ha hb).1
theorem or_nat (a b : Nat) (ha : a < 2 ^ 63) (hb : b < 2 ^ 63) : bits .or .i64 a b = ((a ||| b : Nat) : Int) :=
  (bits_nat .i64 63 (by decide) (fun n h0 h1 => by rw [w64', w64] <;> omega) a b ha hb).2
theorem uand_nat (a b : Nat) (ha : a < 2 ^ 64) (hb : b < 2 ^ 64) : bits .and .u64 a b = ((a &&& b : Nat) : Int) :=
  (bits_nat .u64 64 (by decide) (fun n h0 h1 => wu64 h0 (by omega)) a b ha hb).1
set_option linter.unusedVariables false in
theorem andNot_nat (a b : Nat) (ha : a < 2 ^ 63) (hb : b < 2 ^ 63) : ∃ c : Nat, bits .andNot .i64 a b = (c : Int) ∧ c < 2 ^ 63 ∧ ∀ i, c.testBit i = (a.testBit i && !b.testBit i) := by
  refine ⟨(BitVec.ofInt 64 a &&& ~~~ BitVec.ofInt 64 b).toNat, ?_, ?_, ?_⟩
  · show IntKind.i64.wrap (((BitVec.ofInt 64 a &&& ~~~ BitVec.ofInt 64 b).toNat : Nat) : Int) = _
    have : (BitVec.ofInt 64 a &&& ~~~ BitVec.ofInt 64 b).toNat < 2 ^ 63 := by
      simp only [BitVec.ofInt_natCast, BitVec.toNat_and, BitVec.toNat_ofNat]
      have : (a % 2 ^ 64 &&& (~~~ BitVec.ofNat 64 b).toNat) ≤ a % 2 ^ 64 := Nat.and_le_left
      have : a % 2 ^ 64 = a := Nat.mod_eq_of_lt (by omega)
      omega
    rw [w64', w64] <;> omega
  · simp only [BitVec.ofInt_natCast, BitVec.toNat_and, BitVec.toNat_ofNat]
    have : (a % 2 ^ 64 &&& (~~~ BitVec.ofNat 64 b).toNat) ≤ a % 2 ^ 64 := Nat.and_le_left
    have : a % 2 ^ 64 = a := Nat.mod_eq_of_lt (by omega)
    omega
  · intro i
    simp only [BitVec.ofInt_natCast]
    rw [BitVec.testBit_toNat, BitVec.getLsbD_and, BitVec.getLsbD_not, BitVec.getLsbD_ofNat, BitVec.getLsbD_ofNat]
    by_cases hi : i < 64
    · simp [hi]
    · simp [hi]
      intro h
      have := Nat.testBit_lt_two_pow (Nat.lt_of_lt_of_le ha (Nat.pow_le_pow_right (by decide) (show 63 ≤ i by omega)))
      simp [this] at h
end Go.Proofs.YtmofdldplbplbaaDoor.Q
namespace Go.Proofs.YtmofdldplbplbaaDoor.Q
open Go Go.RowKit Go.Proofs.YtmofdldplbplbaaDoor.P Go.Proofs.YtmofdldplbplbaaDoorW.PrintWords Go.Proofs.YtmofdldplbplbaaDoorW.PrintMore
theorem u_wrap (x : Int) : 0 ≤ IntKind.u64.wrap x ∧ IntKind.u64.wrap x < 18446744073709551616 := by
  simp [IntKind.wrap, IntKind.bits, IntKind.signed]
  omega
def Codes (l : List Int) : Prop := l.length ≤ 4096 ∧ ∀ x ∈ l, 0 ≤ x ∧ x < 256
theorem code_at {l : List Int} (h : Codes l) (i : Int) : 0 ≤ rd l i ∧ rd l i < 256 := by
  by_cases hi : i.toNat < l.length
  · have : rd l i = l[i.toNat] := by simp [rd, List.getD_eq_getElem?_getD, List.getElem?_eq_getElem hi]
    rw [this]
    exact h.2 _ (List.getElem_mem _)
  · have : rd l i = 0 := by simp [rd, List.getD_eq_getElem?_getD, List.getElem?_eq_none (Nat.le_of_not_lt hi)]
    omega
def At (l : List Int) (a : Int) : Prop := 0 ≤ a ∧ a ≤ l.length
theorem mask_in (x : Int) : 0 ≤ bits .and .u64 (IntKind.u64.wrap x / 8589934592) 16777215 ∧ bits .and .u64 (IntKind.u64.wrap x / 8589934592) 16777215 ≤ 16777215 := by
  obtain ⟨a, b⟩ := u_wrap x
  obtain ⟨y, hy⟩ : ∃ y : Nat, IntKind.u64.wrap x / 8589934592 = (y : Int) := ⟨(IntKind.u64.wrap x / 8589934592).toNat, by omega⟩
  rw [hy]
  have := uand_nat y 16777215 (by omega) (by decide)
  rw [show ((16777215 : Nat) : Int) = 16777215 from rfl] at this
  rw [this]
  have h2 : y &&& 16777215 ≤ 16777215 := Nat.and_le_right
  omega
theorem next_in {l : List Int} (hl : Codes l) {a : Int} (ha : At l a) (h n : Int) (n1 : n < 9223372036854775808) : ∃ x a' h', spec_l01Next.f l a h n = some (x, a', h') ∧ At l a' ∧ 0 ≤ x ∧ (1 ≤ n → x < n) ∧ (n < 1 → x = 0) := by
  unfold spec_l01Next.f
  have hlen := hl.1
  obtain ⟨m0, m1⟩ := mask_in (IntKind.u64.wrap (h * 6364136223846793005) + 1442695040888963407)
  by_cases hn : n < 1
  · rw [if_pos hn]
    exact ⟨0, a, h, rfl, ha, by omega, by omega, fun _ => rfl⟩
  rw [if_neg hn]
  have key : ∀ y : Int, 0 ≤ y → 0 ≤ Int.tmod y n ∧ Int.tmod y n < n := fun y hy => by
    rw [Int.tmod_eq_emod_of_nonneg hy]
    exact ⟨Int.emod_nonneg _ (by omega), Int.emod_lt_of_pos _ (by omega)⟩
  by_cases h1 : a < (l.length : Int)
  · rw [if_pos h1, if_pos ha.1, if_neg (by omega)]
    obtain ⟨r0, r1⟩ := code_at hl a
    rw [w64 (a := bits .and .u64 _ _) (by omega) (by omega), w64 (a := rd l a) (by omega) (by omega), w64 (a := bits .and .u64 _ _ + rd l a) (by omega) (by omega), w64 (a := a + 1) (by have := ha.1; omega) (by omega)]
    obtain ⟨k0, k1⟩ := key (bits .and .u64 (IntKind.u64.wrap (IntKind.u64.wrap (h * 6364136223846793005) + 1442695040888963407) / 8589934592) 16777215 + rd l a) (by omega)
    exact ⟨_, _, _, rfl, ⟨by have := ha.1; omega, by omega⟩, k0, fun _ => k1, fun q => absurd q hn⟩
  · rw [if_neg h1, if_neg (by omega)]
    rw [w64 (a := bits .and .u64 _ _) (by omega) (by omega)]
    obtain ⟨k0, k1⟩ := key (bits .and .u64 (IntKind.u64.wrap (IntKind.u64.wrap (h * 6364136223846793005) + 1442695040888963407) / 8589934592) 16777215) (by omega)
    exact ⟨_, _, _, rfl, ha, k0, fun _ => k1, fun q => absurd q hn⟩
theorem pick_in {l : List Int} (hl : Codes l) {a : Int} (ha : At l a) (h : Int) (xs : List Int) (x0 : 0 < xs.length) (x1 : xs.length ≤ 1000) : ∃ x a' h', spec_l01Pick.f l a h xs = some (x, a', h') ∧ At l a' ∧ x ∈ xs := by
  obtain ⟨i, a', h', e, ha', i0, i1, _⟩ := next_in hl ha h (xs.length : Int) (by omega)
  have i1 := i1 (by omega)
  refine ⟨rd xs i, a', h', ?_, ha', ?_⟩
  · unfold spec_l01Pick.f
    rw [e]
    simp only [Option.bind_some]
    rw [if_pos i0, if_pos i1]
  · have hi : i.toNat < xs.length := by omega
    have : rd xs i = xs[i.toNat] := by simp [rd, List.getD_eq_getElem?_getD, List.getElem?_eq_getElem hi]
    rw [this]
    exact List.getElem_mem _
theorem bytes_of {l : List Int} (h : ∀ x ∈ l, (Lit.int .u8 x).wf = true) : ∀ x ∈ l, 0 ≤ x ∧ x < 256 := fun x hx => by
  have := h x hx
  simp [Lit.wf, IntKind.min, IntKind.max, IntKind.signed, IntKind.bits] at this
  omega
end Go.Proofs.YtmofdldplbplbaaDoor.Q
namespace Go.Proofs.YtmofdldplbplbaaDoor.Q
open Go Go.RowKit Go.Proofs.YtmofdldplbplbaaDoor.P Go.Proofs.YtmofdldplbplbaaDoorW.PrintWords Go.Proofs.YtmofdldplbplbaaDoorW.PrintMore
theorem from_ev {l : List Int} (hl : Codes l) : ∃ h, Ev (fun k => spec_l01From.f k l) (l, 0, h) := by
  have loop : ∀ (d : Nat) (i h : Int), 0 ≤ i → i + d = l.length → ∃ h', Ev (fun k => spec_l01From.l0 k l i l 0 h) (l, (0 : Int), h') := by
    intro d
    induction d with
    | zero =>
      intro i h i0 hi
      refine ⟨h, ev_k ?_⟩
      simp only [spec_l01From.l0]
      exact ev_neg (by omega) (Ev.now _)
    | succ d ih =>
      intro i h i0 hi
      have := hl.1
      obtain ⟨h', e⟩ := ih (i + 1) (IntKind.u64.wrap (IntKind.u64.wrap (IntKind.u64.wrap (h * 1099511628211) + IntKind.u64.wrap (rd l i)) + 157)) (by omega) (by omega)
      refine ⟨h', ev_k ?_⟩
      simp only [spec_l01From.l0]
      rw [w64 (a := i + 1) (by omega) (by omega)]
      exact ev_pos (by omega) (ev_pos (by omega) (ev_pos i0 e))
  unfold spec_l01From.f
  exact loop l.length 0 _ (by omega) (by omega)
theorem put_in (n : Int) {r : List Int} {v w : Int} (v0 : 0 ≤ v) (v1 : v < r.length) (w0 : 0 ≤ w) (w1 : w < r.length) (hl : r.length ≤ 62) : ∃ r', spec_l01Put.f n r v w = some r' ∧ r'.length = r.length := by
  unfold spec_l01Put.f
  rw [if_pos v0, if_pos v1, wu64 w0 (by omega), if_pos w0]
  simp only [Option.bind_some]
  rw [if_pos w0, if_pos w1, wu64 v0 (by omega), if_pos v0]
  exact ⟨_, rfl, by simp⟩
theorem drawof_in {l : List Int} (hl : Codes l) {n : Int} (n1 : 1 ≤ n) (n2 : n ≤ 62) {a : Int} (ha : At l a) (h : Int) : ∃ r a' h', (r.length : Int) = n ∧ At l a' ∧ Ev (fun k => spec_l01DrawOf.f k l a h n) (n, r, a', h') := by
  obtain ⟨few, a1, h1, e1, ha1, _⟩ := pick_in hl ha h [1, 2, 3, 4, n] (by simp) (by simp)
  have outer : ∀ (d : Nat) (v : Int) (r : List Int) (a h : Int), 0 ≤ v → v ≤ n → n - v = d → (r.length : Int) = n → At l a → ∃ r' a' h', (r'.length : Int) = n ∧ At l a' ∧ Ev (fun k => spec_l01DrawOf.l0 k n few v l a h n r) (n, r', a', h') := by
    intro d
    induction d with
    | zero =>
      intro v r a h v0 v1 hd hr ha
      refine ⟨r, a, h, hr, ha, ev_k ?_⟩
      simp only [spec_l01DrawOf.l0]
      exact ev_neg (by omega) (Ev.now _)
    | succ d ih =>
      intro v r a h v0 v1 hd hr ha
      have inner : ∀ (e : Nat) (w : Int) (r : List Int) (a h : Int), 0 ≤ w → w ≤ v → v - w = e → (r.length : Int) = n → At l a → ∃ r' a' h', (r'.length : Int) = n ∧ At l a' ∧ Ev (fun k => spec_l01DrawOf.l1 k n few v w l a h n r) (n, r', a', h') := by
        intro e
        induction e with
        | zero =>
          intro w r a h w0 w1 he hr ha
          obtain ⟨r', a', h', hr', ha', hE⟩ := ih (v + 1) r a h (by omega) (by omega) (by omega) hr ha
          refine ⟨r', a', h', hr', ha', ev_k ?_⟩
          simp only [spec_l01DrawOf.l1]
          rw [w64 (a := v + 1) (by omega) (by omega)]
          exact ev_neg (by omega) hE
        | succ e ihe =>
          intro w r a h w0 w1 he hr ha
          obtain ⟨x, a2, h2, e2, ha2, _⟩ := next_in hl ha h n (by omega)
          by_cases z : x < few
          · obtain ⟨p, hp, hpl⟩ := put_in n (r := r) v0 (by omega) w0 (by omega) (by omega)
            obtain ⟨r', a', h', hr', ha', hE⟩ := ihe (w + 1) p a2 h2 (by omega) (by omega) (by omega) (by omega) ha2
            refine ⟨r', a', h', hr', ha', ev_k ?_⟩
            simp only [spec_l01DrawOf.l1]
            rw [w64 (a := w + 1) (by omega) (by omega)]
            exact ev_pos (by omega) (ev_bind0 e2 (ev_pos z (ev_bind0 hp hE)))
          · obtain ⟨r', a', h', hr', ha', hE⟩ := ihe (w + 1) r a2 h2 (by omega) (by omega) (by omega) (by omega) ha2
            refine ⟨r', a', h', hr', ha', ev_k ?_⟩
            simp only [spec_l01DrawOf.l1]
            rw [w64 (a := w + 1) (by omega) (by omega)]
            exact ev_pos (by omega) (ev_bind0 e2 (ev_neg z hE))
      obtain ⟨r', a', h', hr', ha', hE⟩ := inner v.toNat 0 r a h (by omega) (by omega) (by omega) hr ha
      refine ⟨r', a', h', hr', ha', ev_k ?_⟩
      simp only [spec_l01DrawOf.l0]
      exact ev_pos (by omega) hE
  obtain ⟨r', a', h', hr', ha', hE⟩ := outer n.toNat 0 (List.replicate n.toNat 0) a1 h1 (by omega) (by omega) (by omega) (by simp; omega) ha1
  refine ⟨r', a', h', hr', ha', ?_⟩
  unfold spec_l01DrawOf.f spec_l01Empty.f
  rw [if_pos (by omega), if_pos (by omega)]
  simp only [Option.bind_some]
  exact ev_bind0 e1 hE
end Go.Proofs.YtmofdldplbplbaaDoor.Q
namespace Go.Proofs.YtmofdldplbplbaaDoor.Q
open Go Go.RowKit Go.Proofs.YtmofdldplbplbaaDoorW.PrintWords Go.Proofs.YtmofdldplbplbaaDoorW.PrintMore
theorem le_refl {α : Type} (a : Option α) : LeO a a := fun _ h => h
theorem le_none {α : Type} (b : Option α) : LeO Option.none b := fun _ h => by cases h
theorem le_ite {α : Type} {c : Prop} [Decidable c] {a a' b b' : Option α} (h : LeO a a') (k : LeO b b') : LeO (if c then a else b) (if c then a' else b') := by split <;> assumption
theorem le_bind {α β : Type} {a a' : Option α} {f f' : α → Option β} (h : LeO a a') (k : ∀ x, LeO (f x) (f' x)) : LeO (a.bind f) (a'.bind f') := by
  intro r hr
  obtain ⟨x, hx, hf⟩ := Option.bind_eq_some_iff.1 hr
  rw [h x hx]
  exact k x r hf
end Go.Proofs.YtmofdldplbplbaaDoor.Q
namespace Go.Proofs.YtmofdldplbplbaaDoor.Q
open Go Go.RowKit Go.Proofs.YtmofdldplbplbaaDoor.P Go.Proofs.YtmofdldplbplbaaDoorW.PrintWords Go.Proofs.YtmofdldplbplbaaDoorW.PrintMore
theorem mono_words : ∀ k, (∀ y0 y1 y2, LeO (spec_l08Words.j0 k y0 y1 y2) (spec_l08Words.j0 (k + 1) y0 y1 y2)) ∧ (∀ y0 y1 y2, LeO (spec_l08Words.l0 k y0 y1 y2) (spec_l08Words.l0 (k + 1) y0 y1 y2))
  | 0 => ⟨fun _ _ _ r h => by simp [spec_l08Words.j0] at h, fun _ _ _ r h => by simp [spec_l08Words.l0] at h⟩
  | k + 1 => by
    obtain ⟨ih_j0, ih_l0⟩ := mono_words k
    refine ⟨?_, ?_⟩
    · intro y0 y1 y2
      unfold spec_l08Words.j0
      repeat' first | (with_reducible exact ih_l0 _ _ _) | (with_reducible exact le_refl _) | (with_reducible exact le_none _) | (with_reducible refine le_ite ?_ ?_) | (with_reducible refine le_bind ?_ (fun _ => ?_))
    · intro y0 y1 y2
      unfold spec_l08Words.l0
      repeat' first | (with_reducible exact ih_l0 _ _ _) | (with_reducible exact le_refl _) | (with_reducible exact le_none _) | (with_reducible refine le_ite ?_ ?_) | (with_reducible refine le_bind ?_ (fun _ => ?_))
theorem mono_follows : ∀ k, ∀ y0 y1 y2, LeO (spec_l08Follows.l0 k y0 y1 y2) (spec_l08Follows.l0 (k + 1) y0 y1 y2)
  | 0 => fun _ _ _ r h => by simp [spec_l08Follows.l0] at h
  | k + 1 => by
    have ih_l0 := mono_follows k
    intro y0 y1 y2
    unfold spec_l08Follows.l0
    repeat' first | (with_reducible exact ih_l0 _ _ _) | (with_reducible exact le_refl _) | (with_reducible exact le_none _) | (with_reducible refine le_ite ?_ ?_) | (with_reducible refine le_bind ?_ (fun _ => ?_))
theorem mono_dig : ∀ k, (∀ y0 y1 y2 y3 y4, LeO (spec_l08Digraph.l0 k y0 y1 y2 y3 y4) (spec_l08Digraph.l0 (k + 1) y0 y1 y2 y3 y4)) ∧ (∀ y0 y1 y2 y3 y4 y5, LeO (spec_l08Digraph.l1 k y0 y1 y2 y3 y4 y5) (spec_l08Digraph.l1 (k + 1) y0 y1 y2 y3 y4 y5))
  | 0 => ⟨fun _ _ _ _ _ r h => by simp [spec_l08Digraph.l0] at h, fun _ _ _ _ _ _ r h => by simp [spec_l08Digraph.l1] at h⟩
  | k + 1 => by
    obtain ⟨ih_l0, ih_l1⟩ := mono_dig k
    refine ⟨?_, ?_⟩
    · intro y0 y1 y2 y3 y4
      unfold spec_l08Digraph.l0
      repeat' first | (with_reducible exact ih_l1 _ _ _ _ _ _) | (with_reducible exact le_refl _) | (with_reducible exact le_none _) | (with_reducible refine le_ite ?_ ?_) | (with_reducible refine le_bind ?_ (fun _ => ?_))
    · intro y0 y1 y2 y3 y4 y5
      unfold spec_l08Digraph.l1 spec_l08Follows.f
      repeat' first | (with_reducible exact ih_l1 _ _ _ _ _ _) | (with_reducible exact ih_l0 _ _ _ _ _) | (with_reducible exact mono_follows k _ _ _) | (with_reducible exact le_refl _) | (with_reducible exact le_none _) | (with_reducible refine le_ite ?_ ?_) | (with_reducible refine le_bind ?_ (fun _ => ?_))
theorem mono_list : ∀ k, (∀ y0 y1 y2 y3 y4 y5, LeO (spec_l08List.j0 k y0 y1 y2 y3 y4 y5) (spec_l08List.j0 (k + 1) y0 y1 y2 y3 y4 y5)) ∧ (∀ y0 y1 y2 y3 y4 y5 y6, LeO (spec_l08List.l0 k y0 y1 y2 y3 y4 y5 y6) (spec_l08List.l0 (k + 1) y0 y1 y2 y3 y4 y5 y6)) ∧ (∀ y0 y1 y2 y3 y4 y5 y6 y7, LeO (spec_l08List.j2 k y0 y1 y2 y3 y4 y5 y6 y7) (spec_l08List.j2 (k + 1) y0 y1 y2 y3 y4 y5 y6 y7)) ∧ (∀ y0 y1 y2 y3, LeO (spec_l08List.f k y0 y1 y2 y3) (spec_l08List.f (k + 1) y0 y1 y2 y3))
  | 0 => ⟨fun _ _ _ _ _ _ r h => by simp [spec_l08List.j0] at h, fun _ _ _ _ _ _ _ r h => by simp [spec_l08List.l0] at h, fun _ _ _ _ _ _ _ _ r h => by simp [spec_l08List.j2] at h, fun _ _ _ _ r h => by simp [spec_l08List.f] at h⟩
  | k + 1 => by
    obtain ⟨ih_j0, ih_l0, ih_j2, ih_f⟩ := mono_list k
    refine ⟨?_, ?_, ?_, ?_⟩
    · intro y0 y1 y2 y3 y4 y5
      unfold spec_l08List.j0
      repeat' first | (with_reducible exact ih_l0 _ _ _ _ _ _ _) | (with_reducible exact le_refl _) | (with_reducible exact le_none _) | (with_reducible refine le_ite ?_ ?_) | (with_reducible refine le_bind ?_ (fun _ => ?_))
    · intro y0 y1 y2 y3 y4 y5 y6
      unfold spec_l08List.l0
      repeat' first | (with_reducible exact ih_j2 _ _ _ _ _ _ _ _) | (with_reducible exact le_refl _) | (with_reducible exact le_none _) | (with_reducible refine le_ite ?_ ?_) | (with_reducible refine le_bind ?_ (fun _ => ?_))
    · intro y0 y1 y2 y3 y4 y5 y6 y7
      unfold spec_l08List.j2
      repeat' first | (with_reducible exact ih_l0 _ _ _ _ _ _ _) | (with_reducible exact ih_f _ _ _ _) | (with_reducible exact le_refl _) | (with_reducible exact le_none _) | (with_reducible refine le_ite ?_ ?_) | (with_reducible refine le_bind ?_ (fun _ => ?_))
    · intro y0 y1 y2 y3
      unfold spec_l08List.f
      repeat' first | (with_reducible exact ih_j0 _ _ _ _ _ _) | (with_reducible exact le_refl _) | (with_reducible exact le_none _) | (with_reducible refine le_ite ?_ ?_) | (with_reducible refine le_bind ?_ (fun _ => ?_))
theorem mono_bruijn0 : ∀ k, ∀ y0 y1 y2, LeO (spec_DeBruijnDigraph.j0 k y0 y1 y2) (spec_DeBruijnDigraph.j0 (k + 1) y0 y1 y2)
  | 0 => fun _ _ _ r h => by simp [spec_DeBruijnDigraph.j0] at h
  | k + 1 => by
    have ih_j0 := mono_bruijn0 k
    intro y0 y1 y2
    unfold spec_DeBruijnDigraph.j0 spec_l08Words.f spec_l08Digraph.f
    repeat' first | (with_reducible exact (mono_words k).1 _ _ _) | (with_reducible exact (mono_list k).2.2.2 _ _ _ _) | (with_reducible exact (mono_dig k).1 _ _ _ _ _) | (with_reducible exact le_refl _) | (with_reducible exact le_none _) | (with_reducible refine le_ite ?_ ?_) | (with_reducible refine le_bind ?_ (fun _ => ?_))
theorem mono_kautz0 : ∀ k, ∀ y0 y1 y2, LeO (spec_l08Kautz.j0 k y0 y1 y2) (spec_l08Kautz.j0 (k + 1) y0 y1 y2)
  | 0 => fun _ _ _ r h => by simp [spec_l08Kautz.j0] at h
  | k + 1 => by
    have ih_j0 := mono_kautz0 k
    intro y0 y1 y2
    unfold spec_l08Kautz.j0 spec_l08Words.f
    repeat' first | (with_reducible exact (mono_words k).1 _ _ _) | (with_reducible exact le_refl _) | (with_reducible exact le_none _) | (with_reducible refine le_ite ?_ ?_) | (with_reducible refine le_bind ?_ (fun _ => ?_))
theorem mono_bruijn (d e : Int) : ∀ k, LeO (spec_DeBruijnDigraph.f k d e) (spec_DeBruijnDigraph.f (k + 1) d e) := by
  intro k
  unfold spec_DeBruijnDigraph.f
  repeat' first | (with_reducible exact mono_bruijn0 k _ _ _) | (with_reducible exact le_refl _) | (with_reducible exact le_none _) | (with_reducible refine le_ite ?_ ?_) | (with_reducible refine le_bind ?_ (fun _ => ?_))
theorem mono_kautz (d e : Int) : ∀ k, LeO (spec_KautzDigraph.f k d e) (spec_KautzDigraph.f (k + 1) d e) := by
  intro k
  unfold spec_KautzDigraph.f spec_l08Kautz.f spec_l08Digraph.f
  repeat' first | (with_reducible exact mono_kautz0 k _ _ _) | (with_reducible exact (mono_list k).2.2.2 _ _ _ _) | (with_reducible exact (mono_dig k).1 _ _ _ _ _) | (with_reducible exact le_refl _) | (with_reducible exact le_none _) | (with_reducible refine le_ite ?_ ?_) | (with_reducible refine le_bind ?_ (fun _ => ?_))
def okD (o : Option (Int × List Int × Int)) : Bool := match o with
  | some q => decide (q.2.2 = 0) && (decide (0 ≤ q.1) && decide (q.1 ≤ 60)) && (decide (1 ≤ q.2.1.length) && decide (q.2.1.length ≤ 62))
  | none => false
set_option maxRecDepth 1000000
theorem few_bruijn : [(2 : Int), 3].all (fun d => [(1 : Int), 2, 3].all fun k => okD (spec_DeBruijnDigraph.f 3000 d k)) = true := by decide +kernel
theorem few_kautz : [(1 : Int), 2, 3].all (fun d => [(1 : Int), 2, 3].all fun k => okD (spec_KautzDigraph.f 3000 d k)) = true := by decide +kernel
theorem ok_ev {g : Nat → Option (Int × List Int × Int)} (hm : ∀ k, LeO (g k) (g (k + 1))) (h : okD (g 3000) = true) : ∃ n r, (0 ≤ n ∧ n ≤ 60) ∧ (1 ≤ r.length ∧ r.length ≤ 62) ∧ Ev g (n, r, 0) := by
  unfold okD at h
  split at h
  · rename_i q e
    simp only [Bool.and_eq_true, decide_eq_true_eq] at h
    obtain ⟨⟨h0, h1⟩, h2⟩ := h
    obtain ⟨n, r, c⟩ := q
    have h0 : c = 0 := h0
    subst h0
    exact ⟨n, r, h1, h2, Ev.of hm e⟩
  · cases h
theorem bruijn_few {d k : Int} (hd : d ∈ [(2 : Int), 3]) (hk : k ∈ [(1 : Int), 2, 3]) : ∃ n r, (0 ≤ n ∧ n ≤ 60) ∧ (1 ≤ r.length ∧ r.length ≤ 62) ∧ Ev (fun z => spec_DeBruijnDigraph.f z d k) (n, r, 0) := ok_ev (mono_bruijn d k) (List.all_eq_true.1 (List.all_eq_true.1 few_bruijn d hd) k hk)
theorem kautz_few {d k : Int} (hd : d ∈ [(1 : Int), 2, 3]) (hk : k ∈ [(1 : Int), 2, 3]) : ∃ n r, (0 ≤ n ∧ n ≤ 60) ∧ (1 ≤ r.length ∧ r.length ≤ 62) ∧ Ev (fun z => spec_KautzDigraph.f z d k) (n, r, 0) := ok_ev (mono_kautz d k) (List.all_eq_true.1 (List.all_eq_true.1 few_kautz d hd) k hk)
end Go.Proofs.YtmofdldplbplbaaDoor.Q
namespace Go.Proofs.YtmofdldplbplbaaDoor.Q
open Go Go.RowKit Go.Proofs.YtmofdldplbplbaaDoorW.PrintWords
def rows (n : Int) (l : List Int) : Prop := 1 ≤ n ∧ n ≤ 62 ∧ (l.length : Int) = n ∧ ∀ v, 0 ≤ v → v < n → 0 ≤ rd l v ∧ rd l v < 2 ^ n.toNat
def isG (n : Int) (l : List Int) : Prop := rows n l ∧ (∀ v, 0 ≤ v → v < n → tb (rd l v) v = false) ∧ ∀ v w, 0 ≤ v → v < n → 0 ≤ w → w < n → tb (rd l v) w = tb (rd l w) v
theorem rows.nat {n : Int} {l : List Int} (h : rows n l) {v : Int} (h0 : 0 ≤ v) (h1 : v < n) : ∃ x : Nat, rd l v = (x : Int) ∧ x < 2 ^ n.toNat ∧ x < 2 ^ 62 := by
  obtain ⟨a, b, c, d⟩ := h
  obtain ⟨d0, d1⟩ := d v h0 h1
  have e : ((2 : Int) ^ n.toNat) = ((2 ^ n.toNat : Nat) : Int) := by simp
  have p : 2 ^ n.toNat ≤ 2 ^ 62 := Nat.pow_le_pow_right (by decide) (by omega)
  rw [e] at d1
  exact ⟨(rd l v).toNat, by omega, by omega, by omega⟩
end Go.Proofs.YtmofdldplbplbaaDoor.Q
namespace Go.Proofs.YtmofdldplbplbaaDoor.Q
open Go Go.RowKit Go.Proofs.YtmofdldplbplbaaDoor.P
theorem s_in (a b c : Int) : spec_l01In.f a b c = some (decide (b ≤ a ∧ a ≤ c)) := by
  unfold spec_l01In.f
  split
  · exact congrArg some (decide_eq_decide.2 (by omega))
  · exact congrArg some (decide_eq_false (by omega)).symm
end Go.Proofs.YtmofdldplbplbaaDoor.Q
namespace Go.Proofs.YtmofdldplbplbaaDoor.Q
open Go Go.RowKit
def pc : Nat → Nat → Nat
  | 0, _ => 0
  | n + 1, x => x % 2 + pc n (x / 2)
theorem pc_le (n : Nat) : ∀ x, pc n x ≤ n := by
  induction n with
  | zero => intro x; simp [pc]
  | succ n ih => intro x; simp only [pc]; have := ih (x / 2); omega
theorem pc_add (a : Nat) : ∀ b x, pc (a + b) x = pc a x + pc b (x / 2 ^ a) := by
  induction a with
  | zero => intro b x; simp [pc]
  | succ a ih =>
    intro b x
    rw [show a + 1 + b = (a + b) + 1 by omega]
    simp only [pc]
    rw [ih, Nat.div_div_eq_div_mul, Nat.pow_succ', Nat.add_assoc]
def rep (B d : Nat) : Nat → Nat
  | 0 => 0
  | n + 1 => rep B d n * B + d
theorem and_rep (w d n x : Nat) (hd : d < 2 ^ w) : x &&& rep (2 ^ w) d (n + 1) = (x / 2 ^ w &&& rep (2 ^ w) d n) * 2 ^ w + (x % 2 ^ w &&& d) := by
  have h1 : (x &&& rep (2 ^ w) d (n + 1)) / 2 ^ w = x / 2 ^ w &&& rep (2 ^ w) d n := by
    rw [Nat.and_div_two_pow]
    congr 1
    simp only [rep]
    rw [Nat.mul_comm, Nat.mul_add_div (Nat.two_pow_pos w), Nat.div_eq_of_lt hd]
    rfl
  have h2 : (x &&& rep (2 ^ w) d (n + 1)) % 2 ^ w = x % 2 ^ w &&& d := by
    rw [Nat.and_mod_two_pow]
    congr 1
    simp only [rep]
    rw [Nat.mul_comm, Nat.mul_add_mod, Nat.mod_eq_of_lt hd]
  have := Nat.div_add_mod (x &&& rep (2 ^ w) d (n + 1)) (2 ^ w)
  rw [h1, h2, Nat.mul_comm] at this
  exact this.symm
def sA (n x : Nat) : Nat := (x / 2 &&& rep 4 1 n) + (x &&& rep 4 1 n)
theorem sA_succ (n x : Nat) : sA (n + 1) x = sA n (x / 4) * 4 + pc 2 x := by
  have a := and_rep 2 1 n (x / 2) (by decide)
  have b := and_rep 2 1 n x (by decide)
  simp only [show (2 : Nat) ^ 2 = 4 from rfl, Nat.and_one_is_mod] at a b
  unfold sA
  rw [a, b, show x / 2 / 4 = x / 8 by omega, show x / 4 / 2 = x / 8 by omega]
  simp only [pc]
  omega
theorem sA_lt (n : Nat) : ∀ x, sA n x < 4 ^ n ∨ n = 0 ∧ sA n x = 0 := by
  induction n with
  | zero => intro x; right; exact ⟨rfl, by simp [sA, rep]⟩
  | succ n ih =>
    intro x
    left
    have := pc_le 2 x
    rw [sA_succ, Nat.pow_succ]
    rcases ih (x / 4) with h | ⟨rfl, h⟩
    · omega
    · rw [h]; omega
theorem digs (q a b : Nat) (ha : a ≤ 2) (hb : b ≤ 2) : (q * 16 + b * 4 + a) / 4 / 16 = q / 4 ∧ (q * 16 + b * 4 + a) / 16 = q ∧ (q * 16 + b * 4 + a) / 4 % 16 % 4 = b ∧ (q * 16 + b * 4 + a) % 16 % 4 = a := by
  have e : (q * 16 + b * 4 + a) / 4 = q * 4 + b := by omega
  rw [e, Nat.mod_mod_of_dvd _ (by decide : 4 ∣ 16), Nat.mod_mod_of_dvd _ (by decide : 4 ∣ 16)]
  omega
theorem digs2 (q a b : Nat) (ha : a ≤ 4) (hb : b ≤ 4) (hq : q % 16 ≤ 4) : ((q * 256 + b * 16 + a) / 16 + (q * 256 + b * 16 + a)) / 256 = q / 16 + q ∧ ((q * 256 + b * 16 + a) / 16 + (q * 256 + b * 16 + a)) % 256 % 16 = a + b := by
  have e : (q * 256 + b * 16 + a) / 16 = q * 16 + b := by omega
  rw [e, Nat.mod_mod_of_dvd _ (by decide : 16 ∣ 256)]
  omega
def sB (n x : Nat) : Nat := (sA (2 * n) x / 4 &&& rep 16 3 n) + (sA (2 * n) x &&& rep 16 3 n)
theorem sB_succ (n x : Nat) : sB (n + 1) x = sB n (x / 16) * 16 + pc 4 x := by
  have e : sA (2 * (n + 1)) x = sA (2 * n) (x / 16) * 16 + pc 2 (x / 4) * 4 + pc 2 x := by
    rw [show 2 * (n + 1) = (2 * n + 1) + 1 by omega, sA_succ, sA_succ, show x / 4 / 4 = x / 16 by omega]
    omega
  have p1 := pc_le 2 x
  have p2 := pc_le 2 (x / 4)
  have p4 : pc 4 x = pc 2 x + pc 2 (x / 4) := pc_add 2 2 x
  have a := and_rep 4 3 n (sA (2 * (n + 1)) x / 4) (by decide)
  have b := and_rep 4 3 n (sA (2 * (n + 1)) x) (by decide)
  have m3 : ∀ y : Nat, y &&& 3 = y % 4 := fun y => by simpa using Nat.and_two_pow_sub_one_eq_mod y 2
  simp only [show (2 : Nat) ^ 4 = 16 from rfl, m3] at a b
  unfold sB
  rw [a, b]
  obtain ⟨e1, e2, e3, e4⟩ := digs (sA (2 * n) (x / 16)) _ _ p1 p2
  rw [e, e1, e2, e3, e4, p4]
  omega
theorem sB_zero (x : Nat) : sB 0 x = 0 := by simp [sB, rep]
theorem sB_lt (n : Nat) : ∀ x, sB n x < 16 ^ n ∧ sB n x % 16 ≤ 4 := by
  induction n with
  | zero => intro x; rw [sB_zero]; omega
  | succ n ih =>
    intro x
    have := pc_le 4 x
    have := (ih (x / 16)).1
    rw [sB_succ, Nat.pow_succ]
    omega
def sC (n x : Nat) : Nat := sB (2 * n) x / 16 + sB (2 * n) x &&& rep 256 15 n
theorem sC_succ (n x : Nat) : sC (n + 1) x = sC n (x / 256) * 256 + pc 8 x := by
  have e : sB (2 * (n + 1)) x = sB (2 * n) (x / 256) * 256 + pc 4 (x / 16) * 16 + pc 4 x := by
    rw [show 2 * (n + 1) = (2 * n + 1) + 1 by omega, sB_succ, sB_succ, show x / 16 / 16 = x / 256 by omega]
    omega
  have p1 := pc_le 4 x
  have p2 := pc_le 4 (x / 16)
  have p8 : pc 8 x = pc 4 x + pc 4 (x / 16) := pc_add 4 4 x
  have q := (sB_lt (2 * n) (x / 256)).2
  have a := and_rep 8 15 n (sB (2 * (n + 1)) x / 16 + sB (2 * (n + 1)) x) (by decide)
  have m15 : ∀ y : Nat, y &&& 15 = y % 16 := fun y => by simpa using Nat.and_two_pow_sub_one_eq_mod y 4
  simp only [show (2 : Nat) ^ 8 = 256 from rfl, m15] at a
  unfold sC
  rw [a]
  obtain ⟨e1, e2⟩ := digs2 (sB (2 * n) (x / 256)) _ _ p1 p2 q
  rw [e, e1, e2, p8]
theorem sC_eight (x : Nat) : sC 8 x = pc 8 x + 256 * pc 8 (x / 256) + 65536 * pc 8 (x / 65536) + 16777216 * pc 8 (x / 16777216) + 4294967296 * pc 8 (x / 4294967296) + 1099511627776 * pc 8 (x / 1099511627776) + 281474976710656 * pc 8 (x / 281474976710656) + 72057594037927936 * pc 8 (x / 72057594037927936) := by
  have z : ∀ y, sC 0 y = 0 := fun y => by simp [sC, rep]
  have s : ∀ n y q, sC (n + 1) (y / q) = sC n (y / (q * 256)) * 256 + pc 8 (y / q) := fun n y q => by rw [sC_succ, Nat.div_div_eq_div_mul]
  rw [show (8 : Nat) = 7 + 1 from rfl, sC_succ 7 x, s 6 x, s 5 x, s 4 x, s 3 x, s 2 x, s 1 x, s 0 x, z]
  simp only [Nat.reduceMul, Nat.reduceAdd]
  omega
theorem pc_eight (x : Nat) : pc 64 x = pc 8 x + pc 8 (x / 256) + pc 8 (x / 65536) + pc 8 (x / 16777216) + pc 8 (x / 4294967296) + pc 8 (x / 1099511627776) + pc 8 (x / 281474976710656) + pc 8 (x / 72057594037927936) := by
  have h : ∀ n y, pc (8 + n) y = pc 8 y + pc n (y / 256) := fun n y => pc_add 8 n y
  rw [show 64 = 8 + (8 + (8 + (8 + (8 + (8 + (8 + 8)))))) from rfl]
  simp only [h, Nat.div_div_eq_div_mul, Nat.reduceMul]
  omega
set_option maxHeartbeats 1000000 in
theorem swar (x : Nat) : ((sC 8 x + sC 8 x / 256) + (sC 8 x + sC 8 x / 256) / 65536 + ((sC 8 x + sC 8 x / 256) + (sC 8 x + sC 8 x / 256) / 65536) / 4294967296) % 128 = pc 64 x := by
  rw [sC_eight, pc_eight]
  have a0 := pc_le 8 x
  have a1 := pc_le 8 (x / 256)
  have a2 := pc_le 8 (x / 65536)
  have a3 := pc_le 8 (x / 16777216)
  have a4 := pc_le 8 (x / 4294967296)
  have a5 := pc_le 8 (x / 1099511627776)
  have a6 := pc_le 8 (x / 281474976710656)
  have a7 := pc_le 8 (x / 72057594037927936)
  generalize pc 8 x = d0 at *
  generalize pc 8 (x / 256) = d1 at *
  generalize pc 8 (x / 65536) = d2 at *
  generalize pc 8 (x / 16777216) = d3 at *
  generalize pc 8 (x / 4294967296) = d4 at *
  generalize pc 8 (x / 1099511627776) = d5 at *
  generalize pc 8 (x / 281474976710656) = d6 at *
  generalize pc 8 (x / 72057594037927936) = d7 at *
  have e1 : (d0 + 256 * d1 + 65536 * d2 + 16777216 * d3 + 4294967296 * d4 + 1099511627776 * d5 + 281474976710656 * d6 + 72057594037927936 * d7) / 256 = d1 + 256 * d2 + 65536 * d3 + 16777216 * d4 + 4294967296 * d5 + 1099511627776 * d6 + 281474976710656 * d7 := by omega
  rw [e1]
  have e2 : (d0 + 256 * d1 + 65536 * d2 + 16777216 * d3 + 4294967296 * d4 + 1099511627776 * d5 + 281474976710656 * d6 + 72057594037927936 * d7 + (d1 + 256 * d2 + 65536 * d3 + 16777216 * d4 + 4294967296 * d5 + 1099511627776 * d6 + 281474976710656 * d7)) / 65536 = (d2 + d3) + 256 * (d3 + d4) + 65536 * (d4 + d5) + 16777216 * (d5 + d6) + 4294967296 * (d6 + d7) + 1099511627776 * d7 := by omega
  rw [e2]
  have e3 : (d0 + 256 * d1 + 65536 * d2 + 16777216 * d3 + 4294967296 * d4 + 1099511627776 * d5 + 281474976710656 * d6 + 72057594037927936 * d7 + (d1 + 256 * d2 + 65536 * d3 + 16777216 * d4 + 4294967296 * d5 + 1099511627776 * d6 + 281474976710656 * d7) + ((d2 + d3) + 256 * (d3 + d4) + 65536 * (d4 + d5) + 16777216 * (d5 + d6) + 4294967296 * (d6 + d7) + 1099511627776 * d7)) / 4294967296 = (d4 + d5 + d6 + d7) + 256 * (d5 + d6 + d7) + 65536 * (d6 + d7) + 16777216 * d7 := by omega
  rw [e3]
  omega
theorem sC_bound (x : Nat) : sC 8 x < 720575940379279360 := by
  rw [sC_eight]
  have a0 := pc_le 8 x
  have a1 := pc_le 8 (x / 256)
  have a2 := pc_le 8 (x / 65536)
  have a3 := pc_le 8 (x / 16777216)
  have a4 := pc_le 8 (x / 4294967296)
  have a5 := pc_le 8 (x / 1099511627776)
  have a6 := pc_le 8 (x / 281474976710656)
  have a7 := pc_le 8 (x / 72057594037927936)
  omega
theorem mA (x : Nat) (hx : x < 2 ^ 64) : IntKind.u64.wrap (bits .and .u64 ((x : Int) / 2) 6148914691236517205 + bits .and .u64 (x : Int) 6148914691236517205) = ((sA 32 x : Nat) : Int) ∧ sA 32 x < 2 ^ 64 := by
  have hb : sA 32 x < 2 ^ 64 := by rcases sA_lt 32 x with h | ⟨h, _⟩ <;> omega
  refine ⟨?_, hb⟩
  have e : rep 4 1 32 = 6148914691236517205 := by decide
  rw [show ((x : Int) / 2) = ((x / 2 : Nat) : Int) by omega, show (6148914691236517205 : Int) = ((6148914691236517205 : Nat) : Int) from rfl, uand_nat _ _ (by omega) (by decide), uand_nat _ _ hx (by decide)]
  rw [← e]
  rw [← Int.natCast_add]
  exact wu64 (by omega) (by unfold sA at hb; omega)
theorem mB (x : Nat) (hx : x < 2 ^ 64) : IntKind.u64.wrap (bits .and .u64 ((sA 32 x : Nat) / 4) 3689348814741910323 + bits .and .u64 (sA 32 x : Nat) 3689348814741910323) = ((sB 16 x : Nat) : Int) ∧ sB 16 x < 2 ^ 64 := by
  have ha := (mA x hx).2
  have hb : sB 16 x < 2 ^ 64 := (sB_lt 16 x).1
  refine ⟨?_, hb⟩
  have e : rep 16 3 16 = 3689348814741910323 := by decide
  rw [show (((sA 32 x : Nat) : Int) / 4) = ((sA 32 x / 4 : Nat) : Int) by omega, show (3689348814741910323 : Int) = ((3689348814741910323 : Nat) : Int) from rfl, uand_nat _ _ (by omega) (by decide), uand_nat _ _ ha (by decide)]
  rw [← e]
  rw [← Int.natCast_add]
  exact wu64 (by omega) (by unfold sB at hb; simp only [show 2 * 16 = 32 from rfl] at hb; omega)
theorem sB_half (x : Nat) : sB 16 x / 16 + sB 16 x < 2 ^ 64 := by
  have h := sB_succ 15 x
  have h1 := (sB_lt 15 (x / 16)).1
  have h2 := (sB_lt 15 (x / 16)).2
  have h3 := sB_succ 14 (x / 16)
  have e : sB 16 x < 6 * 16 ^ 15 := by
    have k : ∀ n y, sB n y * 15 + 4 ≤ 4 * 16 ^ n := by
      intro n
      induction n with
      | zero => intro y; rw [sB_zero]; omega
      | succ n ih =>
        intro y
        have := ih (y / 16)
        have := pc_le 4 y
        have p := Nat.one_le_two_pow (n := 4 * n)
        rw [sB_succ, Nat.pow_succ]
        have : 1 ≤ 16 ^ n := Nat.one_le_pow _ _ (by decide)
        omega
    have := k 16 x
    omega
  omega
theorem mC (x : Nat) : bits .and .u64 (IntKind.u64.wrap (((sB 16 x : Nat) : Int) / 16 + (sB 16 x : Nat))) 1085102592571150095 = ((sC 8 x : Nat) : Int) := by
  have hb := sB_half x
  have e : rep 256 15 8 = 1085102592571150095 := by decide
  rw [show (((sB 16 x : Nat) : Int) / 16 + (sB 16 x : Nat)) = ((sB 16 x / 16 + sB 16 x : Nat) : Int) by omega, wu64 (by omega) (by omega), show (1085102592571150095 : Int) = ((1085102592571150095 : Nat) : Int) from rfl, uand_nat _ _ hb (by decide)]
  rw [← e]
  rfl
end Go.Proofs.YtmofdldplbplbaaDoor.Q
namespace Go.Proofs.YtmofdldplbplbaaDoor.Q
open Go Go.RowKit Go.Proofs.YtmofdldplbplbaaDoor.P Go.Proofs.YtmofdldplbplbaaDoorW.PrintWords Go.Proofs.YtmofdldplbplbaaDoorW.PrintMore
set_option linter.unusedVariables false
theorem s_has (n : Int) (l : List Int) (v w : Int) (v0 : 0 ≤ v) (v1 : v < l.length) (w0 : 0 ≤ w) (w1 : w ≤ 63) : spec_l01Has.f n l v w = some (tb (rd l v) w) := by
  unfold spec_l01Has.f
  rw [if_pos v0, if_pos v1, wu64 w0 (by omega), if_pos w0, bit_is w0 w1]
section
variable {n : Int} {l : List Int} (n1 : 1 ≤ n) (n2 : n ≤ 62) (hn : (l.length : Int) = n)
include n1 n2 hn
theorem s_is_l1 (d : Nat) : ∀ v : Int, 0 ≤ v → v ≤ n → n - v = d → Says (fun k => spec_l01Is.l1 k v n l) (∀ a, v ≤ a → a < n → ∀ b, 0 ≤ b → b < a → tb (rd l a) b = tb (rd l b) a) := by
  induction d with
  | zero =>
    intro v v0 v1 hd
    refine says_k ?_
    simp only [spec_l01Is.l1]
    exact says_neg (by omega) (says_true fun a _ _ => by omega)
  | succ d ih =>
    intro v v0 v1 hd
    have hv : v < n := by omega
    have inner : ∀ (e : Nat) (w : Int), 0 ≤ w → w ≤ v → v - w = e → Says (fun k => spec_l01Is.l2 k v w n l) ((∀ b, w ≤ b → b < v → tb (rd l v) b = tb (rd l b) v) ∧ ∀ a, v + 1 ≤ a → a < n → ∀ b, 0 ≤ b → b < a → tb (rd l a) b = tb (rd l b) a) := by
      intro e
      induction e with
      | zero =>
        intro w w0 w1 he
        refine says_k ?_
        simp only [spec_l01Is.l2]
        refine says_neg (by omega) ?_
        rw [w64 (a := v + 1) (by omega) (by omega)]
        exact says_iff ⟨fun h => h.2, fun h => ⟨fun b _ _ => by omega, h⟩⟩ (ih (v + 1) (by omega) (by omega) (by omega))
      | succ e ihe =>
        intro w w0 w1 he
        refine says_k ?_
        simp only [spec_l01Is.l2]
        refine says_pos (by omega) ?_
        rw [s_has n l v w v0 (by omega) w0 (by omega), s_has n l w v w0 (by omega) v0 (by omega)]
        simp only [Option.bind_some]
        by_cases h : tb (rd l v) w = tb (rd l w) v
        · refine says_neg (by simp [h]) ?_
          rw [w64 (a := w + 1) (by omega) (by omega)]
          exact says_iff ⟨fun z => ⟨fun b b0 b1 => z.1 b (by omega) b1, z.2⟩, fun z => ⟨fun b b0 b1 => if hb : b = w then by rw [hb]; exact h else z.1 b (by omega) b1, z.2⟩⟩ (ihe (w + 1) (by omega) (by omega) (by omega))
        · exact says_pos (by simp [h]) (says_false fun z => h (z.1 w (by omega) (by omega)))
    refine says_k ?_
    simp only [spec_l01Is.l1]
    exact says_pos hv (says_iff ⟨fun z => ⟨fun b b0 b1 => z v (by omega) hv b b0 b1, fun a a0 a1 => z a (by omega) a1⟩, fun z a a0 a1 b b0 b1 => if ha : a = v then by subst ha; exact z.1 b b0 b1 else z.2 a (by omega) a1 b b0 b1⟩ (inner v.toNat 0 (by omega) (by omega) (by omega)))
theorem s_is_l0 (d : Nat) : ∀ v : Int, 0 ≤ v → v ≤ n → n - v = d → Says (fun k => spec_l01Is.l0 k v n l) ((∀ a, v ≤ a → a < n → (0 ≤ rd l a ∧ rd l a < 2 ^ n.toNat) ∧ tb (rd l a) a = false) ∧ ∀ a, 0 ≤ a → a < n → ∀ b, 0 ≤ b → b < a → tb (rd l a) b = tb (rd l b) a) := by
  have hp := two_pow_le (n := n) (by omega) n2
  induction d with
  | zero =>
    intro v v0 v1 hd
    refine says_k ?_
    simp only [spec_l01Is.l0]
    exact says_neg (by omega) (says_iff ⟨fun h => h.2, fun h => ⟨fun a _ _ => by omega, h⟩⟩ (s_is_l1 n1 n2 hn n.toNat 0 (by omega) (by omega) (by omega)))
  | succ d ih =>
    intro v v0 v1 hd
    refine says_k ?_
    simp only [spec_l01Is.l0]
    rw [wu64 (a := n) (by omega) (by omega), shl_one (by omega) n2, w64 (a := 2 ^ n.toNat - 1) (by omega) (by omega)]
    refine says_pos (by omega) (says_pos v0 (says_pos (by omega) (says_pos (by omega) ?_)))
    rw [s_in, s_has n l v v v0 (by omega) v0 (by omega)]
    simp only [Option.bind_some]
    by_cases h : 0 ≤ rd l v ∧ rd l v ≤ 2 ^ n.toNat - 1
    · refine says_pos (decide_eq_true h) ?_
      by_cases ht : tb (rd l v) v = true
      · exact says_pos ht (says_false fun z => by have := (z.1 v (by omega) (by omega)).2; rw [ht] at this; cases this)
      · refine says_neg ht ?_
        rw [w64 (a := v + 1) (by omega) (by omega)]
        refine says_iff ⟨fun z => ⟨fun a a0 a1 => z.1 a (by omega) a1, z.2⟩, fun z => ⟨fun a a0 a1 => if ha : a = v then ?_ else z.1 a (by omega) a1, z.2⟩⟩ (ih (v + 1) (by omega) (by omega) (by omega))
        subst ha
        exact ⟨by omega, by simpa using ht⟩
    · exact says_neg (by simpa using h) (says_false fun z => h (by have := (z.1 v (by omega) (by omega)).1; omega))
end
theorem s_is (n : Int) (l : List Int) : Says (fun k => spec_l01Is.f k n l) (isG n l) := by
  have bad : ¬ isG n l → Says (fun k => spec_l01Is.j0 k true n l) (isG n l) := fun h => by
    refine says_k ?_
    simp only [spec_l01Is.j0]
    exact says_pos trivial (says_false h)
  unfold spec_l01Is.f
  rw [s_in]
  simp only [Option.bind_some]
  by_cases h1 : 1 ≤ n ∧ n ≤ 62
  · refine says_pos (decide_eq_true h1) ?_
    by_cases h2 : (l.length : Int) = n
    · refine says_k ?_
      simp only [spec_l01Is.j0]
      refine says_neg (by simp [h2]) ?_
      refine says_iff ?_ (s_is_l0 h1.1 h1.2 h2 n.toNat 0 (by omega) (by omega) (by omega))
      constructor
      · exact fun ⟨⟨_, _, _, r⟩, lo, sy⟩ => ⟨fun a a0 a1 => ⟨r a a0 a1, lo a a0 a1⟩, fun a a0 a1 b b0 b1 => sy a b a0 a1 b0 (by omega)⟩
      · intro ⟨z, sy⟩
        refine ⟨⟨h1.1, h1.2, h2, fun a a0 a1 => (z a a0 a1).1⟩, fun a a0 a1 => (z a a0 a1).2, fun a b a0 a1 b0 b1 => ?_⟩
        rcases Int.lt_trichotomy a b with h | h | h
        · exact (sy b b0 b1 a a0 h).symm
        · rw [h]
        · exact sy a a0 a1 b b0 h
    · rw [show ((l.length : Int) != n) = true by simpa using h2]
      exact bad fun z => h2 z.1.2.2.1
  · exact says_neg (by simpa using h1) (bad fun z => h1 ⟨z.1.1, z.1.2.1⟩)
end Go.Proofs.YtmofdldplbplbaaDoor.Q
namespace Go.Proofs.YtmofdldplbplbaaDoor.Q
open Go Go.RowKit Go.Proofs.YtmofdldplbplbaaDoor.P Go.Proofs.YtmofdldplbplbaaDoorW.PrintWords Go.Proofs.YtmofdldplbplbaaDoorW.PrintMore
def DrawsD (l : List Int) (g : Nat → Option (Int × List Int × Int × Int)) : Prop := ∃ n r a h, (0 ≤ n ∧ n ≤ 60) ∧ (1 ≤ r.length ∧ r.length ≤ 62) ∧ At l a ∧ Ev g (n, r, a, h)
theorem small_in {l : List Int} (hl : Codes l) {a : Int} (ha : At l a) (h : Int) : ∃ n r a' h', (1 ≤ n ∧ n ≤ 8) ∧ (r.length : Int) = n ∧ At l a' ∧ Ev (fun k => spec_l01Small.f k l a h) (n, r, a', h') := by
  obtain ⟨x, a1, h1, e1, ha1, x0, x1, _⟩ := next_in hl ha h 8 (by omega)
  have x1 := x1 (by omega)
  obtain ⟨r, a2, h2, hr, ha2, hE⟩ := drawof_in hl (n := 1 + x) (by omega) (by omega) ha1 h1
  refine ⟨1 + x, r, a2, h2, by omega, hr, ha2, ?_⟩
  unfold spec_l01Small.f
  refine ev_bind0 e1 ?_
  rw [w64 (a := 1 + x) (by omega) (by omega)]
  exact Ev.bind hE (Ev.now _)
theorem rest_in {l : List Int} (hl : Codes l) {a : Int} (ha : At l a) (h : Int) : DrawsD l (fun k => spec_l08DrawOf.j0 k l a h) := by
  obtain ⟨x, a1, h1, e1, ha1, x0, x1, _⟩ := next_in hl ha h 7 (by omega)
  have x1 := x1 (by omega)
  have loop : ∀ (d : Nat) (v : Int) (r : List Int) (a h : Int), 0 ≤ v → v ≤ 1 + x → 1 + x - v = d → (r.length : Int) = v → At l a → DrawsD l (fun k => spec_l08DrawOf.l0 k (1 + x) v l a h (1 + x) r) := by
    intro d
    induction d with
    | zero =>
      intro v r a h v0 v1 hd hr ha
      obtain ⟨y, a2, h2, e2, ha2, _⟩ := next_in hl ha h 3 (by omega)
      by_cases z : y = 0
      · refine ⟨1 + x, r.set 0 0, a2, h2, by omega, by simp; omega, ha2, ev_k ?_⟩
        simp only [spec_l08DrawOf.l0]
        exact ev_neg (by omega) (ev_bind0 e2 (ev_pos z (ev_pos (by omega) (Ev.now _))))
      · refine ⟨1 + x, r, a2, h2, by omega, by omega, ha2, ev_k ?_⟩
        simp only [spec_l08DrawOf.l0]
        exact ev_neg (by omega) (ev_bind0 e2 (ev_neg z (Ev.now _)))
    | succ d ih =>
      intro v r a h v0 v1 hd hr ha
      have hp : (2 : Int) ^ (1 + x).toNat ≤ 4611686018427387904 := (two_pow_le (n := 1 + x) (by omega) (by omega)).2
      obtain ⟨y, a2, h2, e2, ha2, _⟩ := next_in hl ha h (2 ^ (1 + x).toNat) (by omega)
      obtain ⟨b, a3, h3, e3, ha3, _⟩ := next_in hl ha2 h2 2 (by omega)
      have ew : wrap64 (v + 1) = v + 1 := w64 (by omega) (by omega)
      have em : 0 ≤ Int.tmod (v + 1) (1 + x) := by
        rw [Int.tmod_eq_emod_of_nonneg (by omega)]
        exact Int.emod_nonneg _ (by omega)
      have em2 : Int.tmod (v + 1) (1 + x) < 1 + x := by
        rw [Int.tmod_eq_emod_of_nonneg (by omega)]
        exact Int.emod_lt_of_pos _ (by omega)
      have eu : IntKind.u64.wrap (Int.tmod (v + 1) (1 + x)) = Int.tmod (v + 1) (1 + x) := wu64 em (by omega)
      have eu2 : IntKind.u64.wrap (1 + x) = 1 + x := wu64 (by omega) (by omega)
      have es : shl .i64 1 (1 + x) = 2 ^ (1 + x).toNat := shl_one (by omega) (by omega)
      by_cases z : b = 0
      · obtain ⟨c, a4, h4, e4, ha4, _⟩ := next_in hl ha3 h3 (2 ^ (1 + x).toNat) (by omega)
        obtain ⟨n', r', a', h', hn, hr', ha', hE⟩ := ih (v + 1) (r ++ [Go.bits .or .i64 (Go.bits .and .i64 y c) (shl .i64 1 (Int.tmod (v + 1) (1 + x)))]) a4 h4 (by omega) (by omega) (by omega) (by simp; omega) ha4
        refine ⟨n', r', a', h', hn, hr', ha', ev_k ?_⟩
        simp only [spec_l08DrawOf.l0]
        rw [eu2, es, ew, eu]
        exact ev_pos (by omega) (ev_pos (by omega) (ev_bind0 e2 (ev_bind0 e3 (ev_pos z (ev_bind0 e4 (ev_neg (by omega) (ev_pos em (ev_pos (by omega) hE))))))))
      · obtain ⟨n', r', a', h', hn, hr', ha', hE⟩ := ih (v + 1) (r ++ [Go.bits .or .i64 y (shl .i64 1 (Int.tmod (v + 1) (1 + x)))]) a3 h3 (by omega) (by omega) (by omega) (by simp; omega) ha3
        refine ⟨n', r', a', h', hn, hr', ha', ev_k ?_⟩
        simp only [spec_l08DrawOf.l0]
        rw [eu2, es, ew, eu]
        exact ev_pos (by omega) (ev_pos (by omega) (ev_bind0 e2 (ev_bind0 e3 (ev_neg z (ev_neg (by omega) (ev_pos em (ev_pos (by omega) hE)))))))
  obtain ⟨n', r', a', h', hn, hr', ha', hE⟩ := loop (1 + x).toNat 0 [] a1 h1 (by omega) (by omega) (by omega) (by simp) ha1
  refine ⟨n', r', a', h', hn, hr', ha', ev_k ?_⟩
  simp only [spec_l08DrawOf.j0]
  refine ev_bind0 e1 ?_
  rw [w64 (a := 1 + x) (by omega) (by omega)]
  exact hE
theorem drawofD_in {l : List Int} (hl : Codes l) {a : Int} (ha : At l a) (h : Int) : DrawsD l (fun k => spec_l08DrawOf.f k l a h) := by
  obtain ⟨x, a1, h1, e1, ha1, _⟩ := next_in hl ha h 5 (by omega)
  by_cases z0 : x = 0
  · obtain ⟨d, a2, h2, e2, ha2, hd⟩ := pick_in hl ha1 h1 [2, 2, 3] (by simp) (by simp)
    obtain ⟨k, a3, h3, e3, ha3, hk⟩ := pick_in hl ha2 h2 [1, 2, 3] (by simp) (by simp)
    obtain ⟨n, r, hn, hr, hs⟩ := bruijn_few (d := d) (k := k) (by simpa using hd) hk
    refine ⟨n, r, a3, h3, hn, hr, ha3, ?_⟩
    unfold spec_l08DrawOf.f
    exact ev_bind0 e1 (ev_pos z0 (ev_bind0 e2 (ev_bind0 e3 (Ev.bind hs (ev_pos rfl (Ev.now _))))))
  by_cases z1 : x = 1
  · obtain ⟨d, a2, h2, e2, ha2, hd⟩ := pick_in hl ha1 h1 [1, 2, 2, 3] (by simp) (by simp)
    obtain ⟨k, a3, h3, e3, ha3, hk⟩ := pick_in hl ha2 h2 [1, 2, 3] (by simp) (by simp)
    obtain ⟨n, r, hn, hr, hs⟩ := kautz_few (d := d) (k := k) (by simpa using hd) hk
    refine ⟨n, r, a3, h3, hn, hr, ha3, ?_⟩
    unfold spec_l08DrawOf.f
    exact ev_bind0 e1 (ev_neg z0 (ev_pos z1 (ev_bind0 e2 (ev_bind0 e3 (Ev.bind hs (ev_pos rfl (Ev.now _)))))))
  by_cases z2 : x = 2
  · obtain ⟨n, r, a2, h2, hn, hr, ha2, hE⟩ := small_in hl ha1 h1
    obtain ⟨b, hb, _⟩ := s_is n r
    by_cases z : b = true
    · refine ⟨n, r, a2, h2, by omega, by omega, ha2, ?_⟩
      have eo : spec_l01Own.f r = some r := by
        unfold spec_l01Own.f
        simp only [Option.bind_some, List.nil_append]
        rw [if_pos (by simp; omega)]
      unfold spec_l08DrawOf.f
      exact ev_bind0 e1 (ev_neg z0 (ev_neg z1 (ev_pos z2 (Ev.bind hE (Ev.bind hb (ev_pos z (ev_bind0 eo (Ev.now _))))))))
    · obtain ⟨n', r', a', h', hn, hr', ha', hE'⟩ := rest_in hl ha2 h2
      refine ⟨n', r', a', h', hn, hr', ha', ?_⟩
      unfold spec_l08DrawOf.f
      exact ev_bind0 e1 (ev_neg z0 (ev_neg z1 (ev_pos z2 (Ev.bind hE (Ev.bind hb (ev_neg z hE'))))))
  · obtain ⟨n', r', a', h', hn, hr', ha', hE⟩ := rest_in hl ha1 h1
    refine ⟨n', r', a', h', hn, hr', ha', ?_⟩
    unfold spec_l08DrawOf.f
    exact ev_bind0 e1 (ev_neg z0 (ev_neg z1 (ev_neg z2 hE)))
theorem drawD_in {l : List Int} (hl : Codes l) {a : Int} (ha : At l a) (h : Int) : ∃ n r a' h', (0 ≤ n ∧ n ≤ 61) ∧ (1 ≤ r.length ∧ r.length ≤ 62) ∧ At l a' ∧ Ev (fun k => spec_l08Draw.f k l a h) (n, r, a', h') := by
  obtain ⟨n, r, a1, h1, hn, hr, ha1, hE⟩ := drawofD_in hl ha h
  obtain ⟨x, a2, h2, e2, ha2, _⟩ := next_in hl ha1 h1 40 (by omega)
  by_cases z0 : x = 0
  · refine ⟨n + 1, r, a2, h2, by omega, hr, ha2, ?_⟩
    unfold spec_l08Draw.f
    refine Ev.bind hE (ev_bind0 e2 (ev_pos z0 ?_))
    rw [w64 (a := n + 1) (by omega) (by omega)]
    exact Ev.now _
  by_cases z1 : x = 1
  · obtain ⟨y, a3, h3, e3, ha3, _⟩ := pick_in hl ha2 h2 [-1, shl .i64 1 n] (by simp) (by simp)
    refine ⟨n, r.set 0 y, a3, h3, by omega, by simpa using hr, ha3, ?_⟩
    unfold spec_l08Draw.f
    refine Ev.bind hE (ev_bind0 e2 (ev_neg z0 (ev_pos z1 ?_)))
    have eu : IntKind.u64.wrap n = n := wu64 (by omega) (by omega)
    simp only [eu]
    exact ev_pos (by omega) (ev_bind0 e3 (ev_pos (by omega) (Ev.now _)))
  · refine ⟨n, r, a2, h2, by omega, hr, ha2, ?_⟩
    unfold spec_l08Draw.f
    exact Ev.bind hE (ev_bind0 e2 (ev_neg z0 (ev_neg z1 (Ev.now _))))
end Go.Proofs.YtmofdldplbplbaaDoor.Q
namespace Go.Proofs.YtmofdldplbplbaaDoor.Q
open Go Go.RowKit
def nextsW (m : Nat) (kz : Bool) (t : List Int) : List (List Int) := ((List.range (m + 1)).filter fun (j : Nat) => !kz || decide (t.getLast? ≠ some (j : Int))).map fun (j : Nat) => t ++ [(j : Int)]
def extW (m : Nat) (kz : Bool) : Nat → List Int → List (List Int)
  | 0, b => [b]
  | j + 1, b => (nextsW m kz b).flatMap (extW m kz j)
theorem extW_succ (m : Nat) (kz : Bool) (j : Nat) : ∀ b, extW m kz (j + 1) b = (extW m kz j b).flatMap (nextsW m kz) := by
  induction j with
  | zero =>
    intro b
    have e : ∀ l : List (List Int), l.flatMap (fun t => [t]) = l := fun l => by
      induction l with
      | nil => rfl
      | cons a l ih => simp
    show (nextsW m kz b).flatMap (fun t => [t]) = _
    rw [e]
    simp [extW]
  | succ j ih =>
    intro b
    show (nextsW m kz b).flatMap (extW m kz (j + 1)) = ((nextsW m kz b).flatMap (extW m kz j)).flatMap (nextsW m kz)
    rw [List.flatMap_assoc]
    congr 1
    funext x
    exact ih x
def okW (m : Nat) (t : List Int) : Prop := ∀ x ∈ t, 0 ≤ x ∧ x ≤ (m : Int)
theorem nextsW_mem {m : Nat} {kz : Bool} {t u : List Int} (h : u ∈ nextsW m kz t) (ht : okW m t) : u.length = t.length + 1 ∧ okW m u := by
  obtain ⟨j, hj, rfl⟩ := List.mem_map.1 h
  have hj := List.mem_range.1 (List.mem_filter.1 hj).1
  refine ⟨by simp, fun x hx => ?_⟩
  rcases List.mem_append.1 hx with hx | hx
  · exact ht x hx
  · rw [List.mem_singleton.1 hx]
    omega
theorem extW_mem {m : Nat} {kz : Bool} (j : Nat) : ∀ {b u : List Int}, u ∈ extW m kz j b → okW m b → u.length = b.length + j ∧ okW m u := by
  induction j with
  | zero => intro b u h hb; rw [List.mem_singleton.1 h]; exact ⟨rfl, hb⟩
  | succ j ih =>
    intro b u h hb
    obtain ⟨t, ht, hu⟩ := List.mem_flatMap.1 h
    obtain ⟨h1, h2⟩ := nextsW_mem ht hb
    obtain ⟨h3, h4⟩ := ih hu h2
    exact ⟨by omega, h4⟩
theorem nextsW_length {m : Nat} {kz : Bool} (t : List Int) : (nextsW m kz t).length ≤ m + 1 := by
  unfold nextsW
  rw [List.length_map]
  have := List.length_filter_le (fun j : Nat => !kz || decide (t.getLast? ≠ some (j : Int))) (List.range (m + 1))
  simpa using this
theorem nextsW_kautz {m : Nat} {t : List Int} (ht : okW m t) (hne : t ≠ []) : (nextsW m true t).length ≤ m := by
  obtain ⟨x, hx⟩ : ∃ x, t.getLast? = some x := ⟨t.getLast hne, List.getLast?_eq_some_getLast hne⟩
  have hxm : x ∈ t := List.mem_of_getLast? hx
  have hr := ht x hxm
  unfold nextsW
  rw [List.length_map, hx]
  have : ¬ ((List.range (m + 1)).filter fun (j : Nat) => !true || decide (some x ≠ some (j : Int))).length = (List.range (m + 1)).length := by
    intro e
    have := (List.length_filter_eq_length_iff.1 e) x.toNat (List.mem_range.2 (by omega))
    simp at this
    omega
  have := List.length_filter_le (fun j : Nat => !true || decide (some x ≠ some (j : Int))) (List.range (m + 1))
  simp only [List.length_range] at *
  omega
theorem flatMap_len {α β : Type} (l : List α) (f : α → List β) (c : Nat) (h : ∀ x ∈ l, (f x).length ≤ c) : (l.flatMap f).length ≤ l.length * c := by
  induction l with
  | nil => simp
  | cons a l ih =>
    have h1 := h a (by simp)
    have h2 := ih fun x hx => h x (by simp [hx])
    rw [List.flatMap_cons, List.length_append, List.length_cons, Nat.add_mul]
    omega
theorem extW_plain (m j : Nat) (b : List Int) : (extW m false j b).length ≤ (m + 1) ^ j := by
  induction j with
  | zero => simp [extW]
  | succ j ih =>
    rw [extW_succ, Nat.pow_succ]
    exact Nat.le_trans (flatMap_len _ _ (m + 1) fun t _ => nextsW_length t) (Nat.mul_le_mul_right _ ih)
theorem extW_kautz (m j : Nat) : (extW m true (j + 1) []).length ≤ (m + 1) * m ^ j := by
  induction j with
  | zero =>
    have : (extW m true 1 []).length ≤ 1 * (m + 1) := by
      rw [extW_succ]
      exact flatMap_len _ _ (m + 1) fun t _ => nextsW_length t
    simpa using this
  | succ j ih =>
    rw [extW_succ, Nat.pow_succ, ← Nat.mul_assoc]
    refine Nat.le_trans (flatMap_len _ _ m fun t ht => ?_) (Nat.mul_le_mul_right _ ih)
    obtain ⟨h1, h2⟩ := extW_mem (j + 1) ht (fun x hx => by cases hx)
    exact nextsW_kautz h2 (by rintro rfl; simp at h1)
end Go.Proofs.YtmofdldplbplbaaDoor.Q
namespace Go.Proofs.YtmofdldplbplbaaDoor.Q
open Go Go.RowKit Go.Proofs.YtmofdldplbplbaaDoor.P Go.Proofs.YtmofdldplbplbaaDoorW.PrintWords Go.Proofs.YtmofdldplbplbaaDoorW.PrintMore
def nx (kz : Bool) (t : List Int) (x : Nat) : List (List Int) := ((List.range x).filter fun (j : Nat) => !kz || decide (t.getLast? ≠ some (j : Int))).map fun (j : Nat) => t ++ [(j : Int)]
theorem nx_all (m : Nat) (kz : Bool) (t : List Int) : nextsW m kz t = nx kz t (m + 1) := rfl
theorem nx_zero (kz : Bool) (t : List Int) : nx kz t 0 = [] := rfl
theorem nx_yes {kz : Bool} {t : List Int} {x : Nat} (h : kz = false ∨ t.getLast? ≠ some (x : Int)) : nx kz t (x + 1) = nx kz t x ++ [t ++ [(x : Int)]] := by
  unfold nx
  rw [List.range_succ, List.filter_append, List.map_append]
  congr 1
  rcases h with rfl | h
  · simp
  · simp [h]
theorem nx_no {kz : Bool} {t : List Int} {x : Nat} (hk : kz = true) (h : t.getLast? = some (x : Int)) : nx kz t (x + 1) = nx kz t x := by
  unfold nx
  rw [List.range_succ, List.filter_append, List.map_append]
  simp [hk, h]
theorem nx_prefix (kz : Bool) (t : List Int) (x d : Nat) : ∃ s, nx kz t (x + d) = nx kz t x ++ s := by
  induction d with
  | zero => exact ⟨[], by simp⟩
  | succ d ih =>
    obtain ⟨s, hs⟩ := ih
    rw [show x + (d + 1) = (x + d) + 1 by omega]
    by_cases h : kz = true ∧ t.getLast? = some ((x + d : Nat) : Int)
    · exact ⟨s, by rw [nx_no h.1 h.2, hs]⟩
    · refine ⟨s ++ [t ++ [((x + d : Nat) : Int)]], ?_⟩
      rw [nx_yes, hs, List.append_assoc]
      cases kz with
      | false => exact .inl rfl
      | true => exact .inr fun z => h ⟨rfl, z⟩
theorem nx_length (kz : Bool) (t : List Int) (x : Nat) : (nx kz t x).length ≤ x := by
  unfold nx
  rw [List.length_map]
  have := List.length_filter_le (fun j : Nat => !kz || decide (t.getLast? ≠ some (j : Int))) (List.range x)
  simpa using this
theorem nx_mem {kz : Bool} {t : List Int} {x m : Nat} (hx : x ≤ m) (h : kz = false ∨ t.getLast? ≠ some (x : Int)) : t ++ [(x : Int)] ∈ nextsW m kz t := by
  refine List.mem_map.2 ⟨x, List.mem_filter.2 ⟨List.mem_range.2 (by omega), ?_⟩, rfl⟩
  rcases h with rfl | h
  · simp
  · simp [h]
theorem mem_flatMap_le {α β : Type} {l : List α} (f : α → List β) {x : α} (h : x ∈ l) : (f x).length ≤ (l.flatMap f).length := by
  induction l with
  | nil => cases h
  | cons a l ih =>
    rw [List.flatMap_cons, List.length_append]
    rcases List.mem_cons.1 h with rfl | h
    · omega
    · have := ih h
      omega
theorem last_rd {t : List Int} (h : t ≠ []) (x : Int) : rd t ((t.length : Int) - 1) = x ↔ t.getLast? = some x := by
  have hp : 0 < t.length := List.length_pos_iff.2 h
  rw [List.getLast?_eq_getElem?, rd, List.getD_eq_getElem?_getD, show ((t.length : Int) - 1).toNat = t.length - 1 by omega, List.getElem?_eq_getElem (by omega)]
  simp
theorem extW_len_pos {m : Nat} {kz : Bool} {j : Nat} {x : List Int} (h : x ∈ extW m kz j []) : x.length = j ∧ okW m x := by
  obtain ⟨a, b⟩ := extW_mem j h (fun y hy => by cases hy)
  exact ⟨by simpa using a, b⟩
end Go.Proofs.YtmofdldplbplbaaDoor.Q
namespace Go.Proofs.YtmofdldplbplbaaDoor.Q
open Go Go.RowKit Go.Proofs.YtmofdldplbplbaaDoor.P Go.Proofs.YtmofdldplbplbaaDoorW.PrintWords Go.Proofs.YtmofdldplbplbaaDoorW.PrintMore
theorem rdL1_mid (pre suf : List (List Int)) (x : List Int) : rd_L2 (pre ++ x :: suf) (pre.length : Int) = x := by
  simp [rd_L2, List.getD_eq_getElem?_getD]
theorem clone_some {l : List Int} (h : l.length < 17592186044416) : slices_Clone_int64_int64.f l = some l := by
  unfold slices_Clone_int64_int64.f
  rw [if_pos h]
theorem own_some {l : List Int} (h : l.length < 17592186044416) : spec_l01Own.f l = some l := by
  unfold spec_l01Own.f
  simp only [Option.bind_some, List.nil_append]
  rw [if_pos (by simp; omega)]
theorem i_tuples (m K : Nat) (hm : m ≤ 61) (hK : K ≤ 10) (hn : ∀ i, i ≤ K → (extW m false i []).length ≤ 62) : Ev (fun z => impl_tuples.f z (K : Int) ((m : Int) + 1)) (extW m false K []) := by
  have outer : ∀ (d i : Nat), i + d = K → Ev (fun z => impl_tuples.l0 z ((m : Int) + 1) (extW m false i []) (K : Int) (i : Int)) (extW m false K []) := by
    intro d
    induction d with
    | zero =>
      intro i hi
      refine ev_k ?_
      simp only [impl_tuples.l0]
      exact ev_neg (by omega) (ev_some (by rw [show i = K by omega]))
    | succ d ih =>
      intro i hi
      have h1 := ih (i + 1) (by omega)
      have hl := hn i (by omega)
      have hmem : ∀ x ∈ extW m false i [], x.length = i := fun x hx => (extW_len_pos hx).1
      rw [extW_succ] at h1
      have middle : ∀ suf pre : List (List Int), pre ++ suf = extW m false i [] → Ev (fun z => impl_tuples.l1 z ((m : Int) + 1) (pre.flatMap (nextsW m false)) (K : Int) (i : Int) (extW m false i []) ((extW m false i []).length : Int) (pre.length : Int)) (extW m false K []) := by
        intro suf
        induction suf with
        | nil =>
          intro pre e
          rw [List.append_nil] at e
          refine ev_k ?_
          simp only [impl_tuples.l1]
          rw [w64 (a := (i : Int) + 1) (by omega) (by omega)]
          refine ev_neg (by rw [e]; omega) ?_
          rw [e]
          exact h1
        | cons t suf ihm =>
          intro pre e
          have h2 := ihm (pre ++ [t]) (by rw [← e]; simp)
          have hlen : pre.length < (extW m false i []).length := by rw [← e]; simp
          have hr : rd_L2 (extW m false i []) (pre.length : Int) = t := by rw [← e]; exact rdL1_mid pre suf t
          have ht := hmem t (by rw [← e]; simp)
          have hpre : (pre.flatMap (nextsW m false)).length ≤ 62 * 62 := Nat.le_trans (flatMap_len _ _ (m + 1) fun x _ => nextsW_length x) (Nat.mul_le_mul (by omega) (by omega))
          rw [List.length_append, List.length_singleton, Int.natCast_add, List.flatMap_append] at h2
          have inner : ∀ (f x : Nat), x + f = m + 1 → Ev (fun z => impl_tuples.l2 z ((m : Int) + 1) (pre.flatMap (nextsW m false) ++ nx false t x) t (K : Int) (i : Int) (extW m false i []) ((extW m false i []).length : Int) (pre.length : Int) ((m : Int) + 1) (x : Int)) (extW m false K []) := by
            intro f
            induction f with
            | zero =>
              intro x hx
              refine ev_k ?_
              simp only [impl_tuples.l2]
              rw [w64 (a := (pre.length : Int) + 1) (by omega) (by omega)]
              refine ev_neg (by omega) ?_
              have : pre.flatMap (nextsW m false) ++ nx false t x = pre.flatMap (nextsW m false) ++ [t].flatMap (nextsW m false) := by
                rw [show x = m + 1 by omega, ← nx_all]
                simp
              rw [this]
              exact h2
            | succ f ihf =>
              intro x hx
              have h3 := ihf (x + 1) (by omega)
              have hb := nx_length false t x
              rw [nx_yes (.inl rfl), ← List.append_assoc] at h3
              refine ev_k ?_
              simp only [impl_tuples.l2, clone_some (show t.length < 17592186044416 by omega), Option.bind_some]
              rw [w64 (a := (x : Int) + 1) (by omega) (by omega)]
              exact ev_pos (by omega) (ev_pos (by omega) (ev_pos (by rw [List.length_append]; omega) h3))
          refine ev_k ?_
          simp only [impl_tuples.l1, hr]
          have := inner (m + 1) 0 (by omega)
          rw [nx_zero, List.append_nil] at this
          exact ev_pos (by omega) (ev_pos (by omega) (ev_pos (by omega) this))
      have := middle (extW m false i []) [] rfl
      refine ev_k ?_
      simp only [impl_tuples.l0]
      exact ev_pos (by omega) this
  unfold impl_tuples.f
  exact outer K 0 (by omega)
theorem i_kautzWords (m K : Nat) (hm : m ≤ 61) (hK : K ≤ 10) (hn : ∀ i, i ≤ K → (extW m true i []).length ≤ 62) : Ev (fun z => impl_kautzWords.f z (m : Int) (K : Int)) (extW m true K []) := by
  have outer : ∀ (d i : Nat), i + d = K → Ev (fun z => impl_kautzWords.l0 z (m : Int) (extW m true i []) (K : Int) (i : Int)) (extW m true K []) := by
    intro d
    induction d with
    | zero =>
      intro i hi
      refine ev_k ?_
      simp only [impl_kautzWords.l0]
      exact ev_neg (by omega) (ev_some (by rw [show i = K by omega]))
    | succ d ih =>
      intro i hi
      have h1 := ih (i + 1) (by omega)
      have hl := hn i (by omega)
      have hmem : ∀ x ∈ extW m true i [], x.length = i := fun x hx => (extW_len_pos hx).1
      rw [extW_succ] at h1
      have middle : ∀ suf pre : List (List Int), pre ++ suf = extW m true i [] → Ev (fun z => impl_kautzWords.l1 z (m : Int) (pre.flatMap (nextsW m true)) (K : Int) (i : Int) (extW m true i []) ((extW m true i []).length : Int) (pre.length : Int)) (extW m true K []) := by
        intro suf
        induction suf with
        | nil =>
          intro pre e
          rw [List.append_nil] at e
          refine ev_k ?_
          simp only [impl_kautzWords.l1]
          rw [w64 (a := (i : Int) + 1) (by omega) (by omega)]
          refine ev_neg (by rw [e]; omega) ?_
          rw [e]
          exact h1
        | cons t suf ihm =>
          intro pre e
          have h2 := ihm (pre ++ [t]) (by rw [← e]; simp)
          have hlen : pre.length < (extW m true i []).length := by rw [← e]; simp
          have hr : rd_L2 (extW m true i []) (pre.length : Int) = t := by rw [← e]; exact rdL1_mid pre suf t
          have ht := hmem t (by rw [← e]; simp)
          have hpre : (pre.flatMap (nextsW m true)).length ≤ 62 * 62 := Nat.le_trans (flatMap_len _ _ (m + 1) fun x _ => nextsW_length x) (Nat.mul_le_mul (by omega) (by omega))
          rw [List.length_append, List.length_singleton, Int.natCast_add, List.flatMap_append] at h2
          have inner : ∀ (f x : Nat), x + f = m + 1 → Ev (fun z => impl_kautzWords.l2 z (m : Int) (pre.flatMap (nextsW m true) ++ nx true t x) t (K : Int) (i : Int) (extW m true i []) ((extW m true i []).length : Int) (pre.length : Int) ((m : Int) + 1) (x : Int)) (extW m true K []) := by
            intro f
            induction f with
            | zero =>
              intro x hx
              refine ev_k ?_
              simp only [impl_kautzWords.l2]
              rw [w64 (a := (pre.length : Int) + 1) (by omega) (by omega)]
              refine ev_neg (by omega) ?_
              have : pre.flatMap (nextsW m true) ++ nx true t x = pre.flatMap (nextsW m true) ++ [t].flatMap (nextsW m true) := by
                rw [show x = m + 1 by omega, ← nx_all]
                simp
              rw [this]
              exact h2
            | succ f ihf =>
              intro x hx
              have h3 := ihf (x + 1) (by omega)
              have hb := nx_length true t x
              refine ev_k ?_
              simp only [impl_kautzWords.l2, clone_some (show t.length < 17592186044416 by omega), Option.bind_some]
              rw [w64 (a := (x : Int) + 1) (by omega) (by omega)]
              refine ev_pos (by omega) ?_
              by_cases z : (t.length : Int) = 0
              · rw [nx_yes (.inr (by rw [List.eq_nil_of_length_eq_zero (by omega : t.length = 0)]; simp)), ← List.append_assoc] at h3
                exact ev_pos z (ev_pos (by omega) (ev_pos (by rw [List.length_append]; omega) h3))
              · rw [w64 (a := (t.length : Int) - 1) (by omega) (by omega)]
                have tn : t ≠ [] := fun e => z (by rw [e]; rfl)
                refine ev_neg z (ev_pos (by omega) (ev_pos (by omega) ?_))
                by_cases y : rd t ((t.length : Int) - 1) = (x : Int)
                · rw [nx_no rfl ((last_rd tn _).1 y)] at h3
                  exact ev_pos y h3
                · rw [nx_yes (.inr fun q => y ((last_rd tn _).2 q)), ← List.append_assoc] at h3
                  exact ev_neg y (ev_pos (by omega) (ev_pos (by rw [List.length_append]; omega) h3))
          refine ev_k ?_
          simp only [impl_kautzWords.l1, hr]
          have := inner (m + 1) 0 (by omega)
          rw [nx_zero, List.append_nil] at this
          rw [w64 (a := (m : Int) + 1) (by omega) (by omega)]
          exact ev_pos (by omega) (ev_pos (by omega) (ev_pos (by omega) this))
      have := middle (extW m true i []) [] rfl
      refine ev_k ?_
      simp only [impl_kautzWords.l0]
      exact ev_pos (by omega) this
  unfold impl_kautzWords.f
  exact outer K 0 (by omega)
theorem s_list (m D K : Nat) (kz : Bool) (hD : (if kz then (D : Int) else (D : Int) - 1) = (m : Int)) (hD2 : D ≤ 62) (hm : m ≤ 61) (hK : K ≤ 10) (r : Nat) : ∀ b : List Int, b.length + r = K → (extW m kz r b).length ≤ 62 → Ev (fun z => spec_l08List.f z (D : Int) (K : Int) kz b) (extW m kz r b) := by
  induction r with
  | zero =>
    intro b hb _
    refine ev_k ?_
    simp only [spec_l08List.f, own_some (show b.length < 17592186044416 by omega), Option.bind_some]
    exact ev_pos (by omega) (Ev.now _)
  | succ r ih =>
    intro b hb hlen
    have hfl : extW m kz (r + 1) b = (nextsW m kz b).flatMap (extW m kz r) := rfl
    have loop : ∀ (f x : Nat), x + f = m + 1 → Ev (fun z => spec_l08List.l0 z (D : Int) (K : Int) kz b ((nx kz b x).flatMap (extW m kz r)) (m : Int) (x : Int)) (extW m kz (r + 1) b) := by
      intro f
      induction f with
      | zero =>
        intro x hx
        refine ev_k ?_
        simp only [spec_l08List.l0]
        exact ev_neg (by omega) (ev_some (by rw [hfl, nx_all, show x = m + 1 by omega]))
      | succ f ihf =>
        intro x hx
        have h3 := ihf (x + 1) (by omega)
        have yes : kz = false ∨ b.getLast? ≠ some (x : Int) → Ev (fun z => spec_l08List.j2 z (D : Int) (K : Int) kz b ((nx kz b x).flatMap (extW m kz r)) (m : Int) (x : Int) true) (extW m kz (r + 1) b) := by
          intro h
          have hmem := nx_mem (show x ≤ m by omega) h
          have hpart : (extW m kz r (b ++ [(x : Int)])).length ≤ 62 := by
            have := mem_flatMap_le (extW m kz r) hmem
            rw [hfl] at hlen
            omega
          have hacc : ((nx kz b x).flatMap (extW m kz r)).length ≤ 62 := by
            obtain ⟨s, hs⟩ := nx_prefix kz b x (m + 1 - x)
            rw [show x + (m + 1 - x) = m + 1 by omega] at hs
            rw [hfl, nx_all, hs, List.flatMap_append, List.length_append] at hlen
            omega
          have hrec := ih (b ++ [(x : Int)]) (by simp; omega) hpart
          rw [nx_yes h, List.flatMap_append, show [b ++ [(x : Int)]].flatMap (extW m kz r) = extW m kz r (b ++ [(x : Int)]) by simp] at h3
          refine ev_k ?_
          simp only [spec_l08List.j2, own_some (show b.length < 17592186044416 by omega), Option.bind_some]
          rw [w64 (a := (x : Int) + 1) (by omega) (by omega)]
          exact ev_pos trivial (ev_pos (by omega) (Ev.bind hrec (ev_pos (by omega) h3)))
        have no : kz = true → b.getLast? = some (x : Int) → Ev (fun z => spec_l08List.j2 z (D : Int) (K : Int) kz b ((nx kz b x).flatMap (extW m kz r)) (m : Int) (x : Int) false) (extW m kz (r + 1) b) := by
          intro h h'
          rw [nx_no h h'] at h3
          refine ev_k ?_
          simp only [spec_l08List.j2]
          rw [w64 (a := (x : Int) + 1) (by omega) (by omega)]
          exact ev_neg (by simp) h3
        refine ev_k ?_
        simp only [spec_l08List.l0]
        refine ev_pos (by omega) ?_
        by_cases hk : kz = true
        · refine ev_pos hk ?_
          by_cases z : (b.length : Int) = 0
          · exact ev_pos z (yes (.inr (by rw [List.eq_nil_of_length_eq_zero (by omega : b.length = 0)]; simp)))
          · rw [w64 (a := (b.length : Int) - 1) (by omega) (by omega)]
            have tn : b ≠ [] := fun e => z (by rw [e]; rfl)
            refine ev_neg z (ev_pos (by omega) (ev_pos (by omega) ?_))
            by_cases y : rd b ((b.length : Int) - 1) = (x : Int)
            · rw [show (rd b ((b.length : Int) - 1) != (x : Int)) = false by simp [y]]
              exact no hk ((last_rd tn _).1 y)
            · rw [show (rd b ((b.length : Int) - 1) != (x : Int)) = true by simp [y]]
              exact yes (.inr fun q => y ((last_rd tn _).2 q))
        · exact ev_neg hk (yes (.inl (by simpa using hk)))
    have h0 := loop (m + 1) 0 (by omega)
    rw [nx_zero] at h0
    refine ev_k ?_
    simp only [spec_l08List.f, Option.bind_some]
    refine ev_neg (by omega) ?_
    have hj : ∀ q : Int, q = (m : Int) → Ev (fun z => spec_l08List.j0 z (D : Int) (K : Int) kz b [] q) (extW m kz (r + 1) b) := by
      intro q hq
      rw [hq]
      refine ev_k ?_
      simp only [spec_l08List.j0]
      exact h0
    by_cases hk : kz = true
    · rw [if_pos hk] at hD
      exact ev_pos hk (hj _ hD)
    · rw [if_neg hk] at hD
      refine ev_neg hk ?_
      rw [w64 (a := (D : Int) - 1) (by omega) (by omega)]
      exact hj _ hD
end Go.Proofs.YtmofdldplbplbaaDoor.Q
namespace Go.Proofs.YtmofdldplbplbaaDoor.Q
open Go Go.RowKit Go.Proofs.YtmofdldplbplbaaDoor.P Go.Proofs.YtmofdldplbplbaaDoorW.PrintWords Go.Proofs.YtmofdldplbplbaaDoorW.PrintMore
theorem cap_step (c D : Nat) (hD : 1 ≤ D) : min (min c 63 * D) 63 = min (c * D) 63 := by
  by_cases h : c ≤ 63
  · rw [Nat.min_eq_left h]
  · have h1 : 63 ≤ 63 * D := Nat.le_mul_of_pos_right _ hD
    have h2 : 63 ≤ c * D := Nat.le_trans (by omega : 63 ≤ c) (Nat.le_mul_of_pos_right _ hD)
    rw [Nat.min_eq_right (by omega : 63 ≤ c), Nat.min_eq_right h1, Nat.min_eq_right h2]
theorem mn_step (c D : Nat) (hD : 1 ≤ D) (h2 : D ≤ 62) : mn (wrap64 (((min c 63 : Nat) : Int) * (D : Int))) 63 = ((min (c * D) 63 : Nat) : Int) := by
  have b : min c 63 * D ≤ 63 * 62 := Nat.mul_le_mul (Nat.min_le_right _ _) h2
  rw [← cap_step c D hD, show ((min c 63 : Nat) : Int) * (D : Int) = ((min c 63 * D : Nat) : Int) by simp]
  generalize min c 63 * D = x at *
  rw [w64 (by omega) (by omega)]
  unfold mn
  split <;> omega
theorem i_capped (D K : Nat) (hD : 1 ≤ D) (h2 : D ≤ 62) (hK : K ≤ 10) : Ev (fun z => impl_capped.f z (D : Int) (K : Int) 62) ((min (D ^ K) 63 : Nat) : Int) := by
  have loop : ∀ (d i : Nat), i + d = K → Ev (fun z => impl_capped.l0 z (D : Int) 62 ((min (D ^ i) 63 : Nat) : Int) (K : Int) (i : Int)) ((min (D ^ K) 63 : Nat) : Int) := by
    intro d
    induction d with
    | zero =>
      intro i hi
      refine ev_k ?_
      simp only [impl_capped.l0]
      exact ev_neg (by omega) (ev_some (by rw [show i = K by omega]))
    | succ d ih =>
      intro i hi
      have := ih (i + 1) (by omega)
      refine ev_k ?_
      simp only [impl_capped.l0]
      refine ev_pos (by omega) ?_
      rw [w64 (a := (i : Int) + 1) (by omega) (by omega), show wrap64 (62 + 1) = 63 from by simp [wrap64], mn_step _ D hD h2, ← Nat.pow_succ]
      exact this
  unfold impl_capped.f
  have := loop K 0 (by omega)
  simpa using this
theorem s_words (c D : Nat) (hD : 1 ≤ D) (h2 : D ≤ 62) (d : Nat) : ∀ i : Nat, d ≤ 10 → Ev (fun z => spec_l08Words.l0 z (D : Int) ((d : Int) + 1) ((min (c * D ^ i) 63 : Nat) : Int)) ((min (c * D ^ (i + d)) 63 : Nat) : Int) := by
  induction d with
  | zero =>
    intro i _
    refine ev_k ?_
    simp only [spec_l08Words.l0]
    exact ev_neg (by omega) (Ev.now _)
  | succ d ih =>
    intro i hd
    have := ih (i + 1) (by omega)
    refine ev_k ?_
    simp only [spec_l08Words.l0]
    refine ev_pos (by omega) ?_
    rw [w64 (a := ((d + 1 : Nat) : Int) + 1 - 1) (by omega) (by omega), mn_step _ D hD h2, Nat.mul_assoc, ← Nat.pow_succ, show ((d + 1 : Nat) : Int) + 1 - 1 = (d : Int) + 1 by omega]
    rw [show i + 1 + d = i + (d + 1) by omega] at this
    exact this
theorem s_count (D K : Nat) (kz : Bool) (hD : 1 ≤ D) (h2 : D ≤ 62) (hK : 1 ≤ K) (hK2 : K ≤ 10) : Ev (fun z => spec_l08Words.f z (D : Int) (K : Int) kz) ((min ((if kz then D + 1 else D) * D ^ (K - 1)) 63 : Nat) : Int) := by
  have e : (K : Int) = ((K - 1 : Nat) : Int) + 1 := by omega
  unfold spec_l08Words.f
  cases kz with
  | true =>
    refine ev_pos rfl (ev_k ?_)
    simp only [spec_l08Words.j0]
    rw [w64 (a := (D : Int) + 1) (by omega) (by omega)]
    have := s_words (D + 1) D hD h2 (K - 1) 0 (by omega)
    rw [Nat.pow_zero, Nat.mul_one, Nat.min_eq_left (by omega), Nat.zero_add] at this
    rw [e]
    exact this
  | false =>
    refine ev_neg (by decide) (ev_k ?_)
    simp only [spec_l08Words.j0]
    have := s_words D D hD h2 (K - 1) 0 (by omega)
    rw [Nat.pow_zero, Nat.mul_one, Nat.min_eq_left (by omega), Nat.zero_add] at this
    rw [e]
    exact this
end Go.Proofs.YtmofdldplbplbaaDoor.Q
namespace Go.Proofs.YtmofdldplbplbaaDoor.Q
open Go Go.RowKit Go.Proofs.YtmofdldplbplbaaDoor.P Go.Proofs.YtmofdldplbplbaaDoorW.PrintWords Go.Proofs.YtmofdldplbplbaaDoorW.PrintMore
theorem kcodes (d k : Int) : ∃ c, Ev (fun z => spec_l08Kautz.f z d k) c ∧ Ev (fun z => impl_kautzCode.f z d k) c ∧ (c = 0 → ∃ D K : Nat, d = D ∧ k = K ∧ 1 ≤ D ∧ D ≤ 61 ∧ 1 ≤ K ∧ K ≤ 10 ∧ (D + 1) * D ^ (K - 1) ≤ 62) := by
  have ij : ∀ (b : Bool) (q : Int), Ev (fun z => impl_kautzCode.j0 z d k b) q → (b = true → d < 1 ∨ d > 61 ∨ k < 1 ∨ k > 10) → (b = false → ¬ (d < 1 ∨ d > 61 ∨ k < 1 ∨ k > 10)) → Ev (fun z => impl_kautzCode.f z d k) q := by
    intro b q h h1 h2
    unfold impl_kautzCode.f
    by_cases c1 : d < 1
    · obtain rfl : b = true := by cases b with | true => rfl | false => exact absurd (.inl c1) (h2 rfl)
      exact ev_pos c1 h
    refine ev_neg c1 ?_
    by_cases c2 : d > 61
    · obtain rfl : b = true := by cases b with | true => rfl | false => exact absurd (.inr (.inl c2)) (h2 rfl)
      exact ev_pos c2 h
    refine ev_neg c2 ?_
    by_cases c3 : k < 1
    · obtain rfl : b = true := by cases b with | true => rfl | false => exact absurd (.inr (.inr (.inl c3))) (h2 rfl)
      exact ev_pos c3 h
    refine ev_neg c3 ?_
    have : b = decide (k > 10) := by
      cases b with
      | true => have := h1 rfl; exact (decide_eq_true (by omega)).symm
      | false => have := h2 rfl; exact (decide_eq_false (by omega)).symm
    rw [← this]
    exact h
  have sj : ∀ (b : Bool) (q : Int), Ev (fun z => spec_l08Kautz.j0 z d k b) q → (b = true → d < 1 ∨ d > 61 ∨ k < 1 ∨ k > 10) → (b = false → ¬ (d < 1 ∨ d > 61 ∨ k < 1 ∨ k > 10)) → Ev (fun z => spec_l08Kautz.f z d k) q := by
    intro b q h h1 h2
    unfold spec_l08Kautz.f
    simp only [s_in, Option.bind_some]
    by_cases c1 : 1 ≤ d ∧ d ≤ 61
    · refine ev_pos (decide_eq_true c1) ?_
      have : b = !(decide (1 ≤ k ∧ k ≤ 10)) := by
        cases b with
        | true => have := h1 rfl; rw [decide_eq_false (by omega)]; rfl
        | false => have := h2 rfl; rw [decide_eq_true (by omega)]; rfl
      rw [← this]
      exact h
    · obtain rfl : b = true := by cases b with | true => rfl | false => exact absurd (by omega) (h2 rfl)
      exact ev_neg (by simpa using c1) h
  by_cases c : d < 1 ∨ d > 61 ∨ k < 1 ∨ k > 10
  · refine ⟨2, sj true _ (ev_k ?_) (fun _ => c) (by simp), ij true _ (ev_k ?_) (fun _ => c) (by simp), by simp⟩
    · simp only [spec_l08Kautz.j0]
      exact ev_pos trivial (Ev.now _)
    · simp only [impl_kautzCode.j0]
      exact ev_pos trivial (Ev.now _)
  · obtain ⟨D, rfl⟩ := Int.eq_ofNat_of_zero_le (show 0 ≤ d by omega)
    obtain ⟨K, rfl⟩ := Int.eq_ofNat_of_zero_le (show 0 ≤ k by omega)
    have hi := i_capped D (K - 1) (by omega) (by omega) (by omega)
    have hs := s_count D K true (by omega) (by omega) (by omega) (by omega)
    rw [if_pos rfl] at hs
    have e1 : wrap64 ((K : Int) - 1) = ((K - 1 : Nat) : Int) := by rw [w64 (by omega) (by omega)]; omega
    have e2 : wrap64 ((D : Int) + 1) = ((D + 1 : Nat) : Int) := by rw [w64 (by omega) (by omega)]; omega
    have b : (D + 1) * min (D ^ (K - 1)) 63 ≤ 62 * 63 := Nat.mul_le_mul (by omega) (Nat.min_le_right _ _)
    have e3 : wrap64 (((D + 1 : Nat) : Int) * ((min (D ^ (K - 1)) 63 : Nat) : Int)) = (((D + 1) * min (D ^ (K - 1)) 63 : Nat) : Int) := by
      rw [show ((D + 1 : Nat) : Int) * ((min (D ^ (K - 1)) 63 : Nat) : Int) = (((D + 1) * min (D ^ (K - 1)) 63 : Nat) : Int) by simp]
      generalize (D + 1) * min (D ^ (K - 1)) 63 = x at *
      exact w64 (by omega) (by omega)
    have ht : (D + 1) * min (D ^ (K - 1)) 63 > 62 ↔ (D + 1) * D ^ (K - 1) > 62 := by
      by_cases h : D ^ (K - 1) ≤ 63
      · rw [Nat.min_eq_left h]
      · have h1 : 63 ≤ (D + 1) * 63 := Nat.le_mul_of_pos_left _ (by omega)
        have h2 : D ^ (K - 1) ≤ (D + 1) * D ^ (K - 1) := Nat.le_mul_of_pos_left _ (by omega)
        rw [Nat.min_eq_right (by omega)]
        omega
    by_cases cl : 62 < (D + 1) * D ^ (K - 1)
    · refine ⟨3, sj false _ (ev_k ?_) (by simp) (fun _ => c), ij false _ (ev_k ?_) (by simp) (fun _ => c), by simp⟩
      · simp only [spec_l08Kautz.j0]
        exact ev_neg (by simp) (Ev.bind hs (ev_pos (by omega) (Ev.now _)))
      · simp only [impl_kautzCode.j0]
        refine ev_neg (by simp) ?_
        rw [e1]
        refine Ev.bind hi ?_
        rw [e2, e3]
        exact ev_pos (by have := ht.2 cl; omega) (Ev.now _)
    · refine ⟨0, sj false _ (ev_k ?_) (by simp) (fun _ => c), ij false _ (ev_k ?_) (by simp) (fun _ => c), fun _ => ⟨D, K, rfl, rfl, by omega, by omega, by omega, by omega, by omega⟩⟩
      · simp only [spec_l08Kautz.j0]
        exact ev_neg (by simp) (Ev.bind hs (ev_neg (by omega) (Ev.now _)))
      · simp only [impl_kautzCode.j0]
        refine ev_neg (by simp) ?_
        rw [e1]
        refine Ev.bind hi ?_
        rw [e2, e3]
        exact ev_neg (by have : ¬ (D + 1) * min (D ^ (K - 1)) 63 > 62 := fun z => cl (ht.1 z); omega) (Ev.now _)
theorem kbound {D K : Nat} (h1 : 1 ≤ D) (hK : 1 ≤ K) (h : (D + 1) * D ^ (K - 1) ≤ 62) (i : Nat) (hi : i ≤ K) : (extW D true i []).length ≤ 62 := by
  cases i with
  | zero => simp [extW]
  | succ j =>
    have a := extW_kautz D j
    have b : D ^ j ≤ D ^ (K - 1) := Nat.pow_le_pow_right h1 (by omega)
    have c : (D + 1) * D ^ j ≤ (D + 1) * D ^ (K - 1) := Nat.mul_le_mul_left _ b
    omega
end Go.Proofs.YtmofdldplbplbaaDoor.Q
namespace Go.Proofs.YtmofdldplbplbaaDoor.Q
open Go Go.RowKit Go.Proofs.YtmofdldplbplbaaDoor.P Go.Proofs.YtmofdldplbplbaaDoorW.PrintWords Go.Proofs.YtmofdldplbplbaaDoorW.PrintMore
theorem foll_iff {a b : List Int} (e : a.length = b.length) (p : 0 < a.length) : (∀ i : Int, 1 ≤ i → i < a.length → rd a i = rd b (i - 1)) ↔ a.drop 1 = b.take (b.length - 1) := by
  constructor
  · intro h
    refine List.ext_getElem (by simp only [List.length_drop, List.length_take]; omega) fun j h1 h2 => ?_
    simp only [List.length_drop] at h1
    have := h (j + 1) (by omega) (by omega)
    rw [show ((j : Int) + 1 - 1) = j by omega] at this
    simp only [rd, List.getD_eq_getElem?_getD, Int.toNat_natCast, show ((j : Int) + 1).toNat = 1 + j by omega] at this
    rw [List.getElem?_eq_getElem (by omega), List.getElem?_eq_getElem (by omega)] at this
    simpa [Nat.add_comm] using this
  · intro h i i1 i2
    have := congrArg (fun l : List Int => l[(i - 1).toNat]?) h
    simp only [List.getElem?_drop, List.getElem?_take] at this
    rw [if_pos (by omega), show 1 + (i - 1).toNat = i.toNat by omega] at this
    simp only [rd, List.getD_eq_getElem?_getD, this]
end Go.Proofs.YtmofdldplbplbaaDoor.Q
namespace Go.Proofs.YtmofdldplbplbaaDoor.Q
open Go Go.RowKit Go.Proofs.YtmofdldplbplbaaDoorW.PrintWords Go.Proofs.YtmofdldplbplbaaDoorW.PrintMore
def Mx (n : Int) (l : List Int) (P : Int → Int → Prop) : Prop := (l.length : Int) = n ∧ ∀ v, 0 ≤ v → v < n → (0 ≤ rd l v ∧ rd l v < 2 ^ n.toNat) ∧ ∀ w, 0 ≤ w → w < n → (tb (rd l v) w = true ↔ P v w)
theorem Mx.imp {n : Int} {l : List Int} {P Q : Int → Int → Prop} (h : Mx n l P) (e : ∀ v w, 0 ≤ v → v < n → 0 ≤ w → w < n → (P v w ↔ Q v w)) : Mx n l Q :=
  ⟨h.1, fun v v0 v1 => ⟨(h.2 v v0 v1).1, fun w w0 w1 => ((h.2 v v0 v1).2 w w0 w1).trans (e v w v0 v1 w0 w1)⟩⟩
theorem rd_ext {a b : List Int} (hl : a.length = b.length) (h : ∀ v : Int, 0 ≤ v → v < a.length → rd a v = rd b v) : a = b := by
  refine List.ext_getElem hl fun i h1 h2 => ?_
  have := h i (by omega) (by omega)
  simpa [rd, List.getD_eq_getElem?_getD, h1, h2] using this
theorem Mx.eq {n : Int} {a b : List Int} {P : Int → Int → Prop} (ha : Mx n a P) (hb : Mx n b P) (n0 : 0 ≤ n) : a = b := by
  refine rd_ext (by have := ha.1; have := hb.1; omega) fun v v0 v1 => ?_
  have v1 : v < n := by have := ha.1; omega
  obtain ⟨⟨a0, a1⟩, a2⟩ := ha.2 v v0 v1
  obtain ⟨⟨b0, b1⟩, b2⟩ := hb.2 v v0 v1
  exact tb_ext a0 a1 b0 b1 n0 fun i i0 i1 => Bool.eq_iff_iff.2 ((a2 i i0 i1).trans (b2 i i0 i1).symm)
theorem Mx.zero (n : Int) (n0 : 0 ≤ n) : Mx n (List.replicate n.toNat 0) (fun _ _ => False) := by
  refine ⟨by simp; omega, fun v v0 v1 => ?_⟩
  have e : rd (List.replicate n.toNat 0) v = 0 := by
    have : v.toNat < n.toNat := by omega
    simp [rd, List.getD_eq_getElem?_getD, this]
  rw [e]
  have p : (0 : Int) < 2 ^ n.toNat := Int.pow_pos (by decide)
  refine ⟨⟨by omega, p⟩, fun w w0 w1 => ?_⟩
  simp [tb]
theorem Mx.rows {n : Int} {l : List Int} {P : Int → Int → Prop} (h : Mx n l P) (n1 : 1 ≤ n) (n2 : n ≤ 62) : rows n l := ⟨n1, n2, h.1, fun v v0 v1 => (h.2 v v0 v1).1⟩
theorem rd_set {l : List Int} {i j : Int} (x : Int) (i0 : 0 ≤ i) (i1 : i < l.length) (j0 : 0 ≤ j) : rd (l.set i.toNat x) j = if j = i then x else rd l j := by
  simp only [rd, List.getD_eq_getElem?_getD, List.getElem?_set]
  by_cases h : j = i
  · subst h
    rw [if_pos rfl, if_pos rfl, if_pos (by omega)]
    rfl
  · rw [if_neg h, if_neg (by omega)]
theorem or_one {n x j : Int} (n2 : n ≤ 62) (x0 : 0 ≤ x) (x1 : x < 2 ^ n.toNat) (j0 : 0 ≤ j) (j1 : j < n) : (0 ≤ bits .or .i64 x (shl .i64 1 j) ∧ bits .or .i64 x (shl .i64 1 j) < 2 ^ n.toNat) ∧ ∀ w, 0 ≤ w → (tb (bits .or .i64 x (shl .i64 1 j)) w = true ↔ tb x w = true ∨ w = j) := by
  have e : ((2 : Int) ^ n.toNat) = ((2 ^ n.toNat : Nat) : Int) := by simp
  have p : 2 ^ n.toNat ≤ 2 ^ 62 := Nat.pow_le_pow_right (by decide) (by omega)
  have q : 2 ^ j.toNat < 2 ^ n.toNat := Nat.pow_lt_pow_right (by decide) (by omega)
  rw [e] at x1 ⊢
  obtain ⟨y, rfl⟩ := Int.eq_ofNat_of_zero_le x0
  rw [shl_one j0 (by omega), show ((2 : Int) ^ j.toNat) = ((2 ^ j.toNat : Nat) : Int) by simp, or_nat y (2 ^ j.toNat) (by omega) (by omega)]
  refine ⟨⟨by omega, ?_⟩, fun w w0 => ?_⟩
  · have := Nat.or_lt_two_pow (show y < 2 ^ n.toNat by omega) q
    omega
  · obtain ⟨w, rfl⟩ := Int.eq_ofNat_of_zero_le w0
    rw [tb_nat, tb_nat, Nat.testBit_or, Nat.testBit_two_pow]
    simp only [Bool.or_eq_true, decide_eq_true_eq]
    refine or_congr Iff.rfl ?_
    omega
theorem Mx.or {n : Int} {l : List Int} {P : Int → Int → Prop} (h : Mx n l P) (n2 : n ≤ 62) {i j : Int} (i0 : 0 ≤ i) (i1 : i < n) (j0 : 0 ≤ j) (j1 : j < n) : Mx n (l.set i.toNat (bits .or .i64 (rd l i) (shl .i64 1 j))) (fun v w => P v w ∨ (v = i ∧ w = j)) := by
  refine ⟨by simpa using h.1, fun v v0 v1 => ?_⟩
  rw [rd_set _ i0 (by have := h.1; omega) v0]
  obtain ⟨⟨a0, a1⟩, a2⟩ := h.2 v v0 v1
  by_cases hv : v = i
  · rw [if_pos hv]
    subst hv
    obtain ⟨b, b2⟩ := or_one n2 a0 a1 j0 j1
    exact ⟨b, fun w w0 w1 => (b2 w w0).trans (or_congr (a2 w w0 w1) (by simp))⟩
  · rw [if_neg hv]
    exact ⟨⟨a0, a1⟩, fun w w0 w1 => (a2 w w0 w1).trans (by simp [hv])⟩
end Go.Proofs.YtmofdldplbplbaaDoor.Q
namespace Go.Proofs.YtmofdldplbplbaaDoor.Q
open Go Go.RowKit Go.Proofs.YtmofdldplbplbaaDoor.P Go.Proofs.YtmofdldplbplbaaDoorW.PrintWords Go.Proofs.YtmofdldplbplbaaDoorW.PrintMore
theorem i_directed (n : Int) (n0 : 0 ≤ n) (n2 : n ≤ 62) (is_ : Int → Int → Option Bool) (Q : Int → Int → Prop) (hq : ∀ v w, 0 ≤ v → v < n → 0 ≤ w → w < n → ∃ b, is_ v w = some b ∧ (b = true ↔ Q v w)) : ∃ r, Mx n r Q ∧ Ev (fun k => impl_directed.f is_ k n) (n, r) := by
  have outer : ∀ (d : Nat) (v : Int) (l : List Int), 0 ≤ v → v ≤ n → n - v = d → Mx n l (fun a b => a < v ∧ Q a b) → ∃ r, Mx n r Q ∧ Ev (fun k => impl_directed.l0 is_ k n n v n l) (n, r) := by
    intro d
    induction d with
    | zero =>
      intro v l v0 v1 hd hm
      refine ⟨l, hm.imp fun a b a0 a1 _ _ => ⟨fun z => z.2, fun z => ⟨by omega, z⟩⟩, ev_k ?_⟩
      simp only [impl_directed.l0]
      exact ev_neg (by omega) (Ev.now _)
    | succ d ih =>
      intro v l v0 v1 hd hm
      have inner : ∀ (e : Nat) (w : Int) (l : List Int), 0 ≤ w → w ≤ n → n - w = e → Mx n l (fun a b => (a < v ∨ (a = v ∧ b < w)) ∧ Q a b) → ∃ r, Mx n r Q ∧ Ev (fun k => impl_directed.l1 is_ k n v n v n w n l) (n, r) := by
        intro e
        induction e with
        | zero =>
          intro w l w0 w1 he hm
          obtain ⟨r, hr, hx⟩ := ih (v + 1) l (by omega) (by omega) (by omega) (hm.imp fun a b a0 a1 b0 b1 => and_congr ⟨fun _ => by omega, fun _ => by omega⟩ Iff.rfl)
          refine ⟨r, hr, ev_k ?_⟩
          simp only [impl_directed.l1]
          refine ev_neg (by omega) ?_
          rwa [w64 (a := v + 1) (by omega) (by omega)]
        | succ e ihe =>
          intro w l w0 w1 he hm
          obtain ⟨b, hb, hbq⟩ := hq v w v0 (by omega) w0 (by omega)
          cases b with
          | true =>
            obtain ⟨r, hr, hx⟩ := ihe (w + 1) _ (by omega) (by omega) (by omega) ((hm.or n2 v0 (by omega) w0 (by omega : w < n)).imp (Q := fun a b => (a < v ∨ (a = v ∧ b < w + 1)) ∧ Q a b) fun a b a0 a1 b0 b1 => by
              constructor
              · rintro (⟨h, q⟩ | ⟨rfl, rfl⟩)
                · exact ⟨by omega, q⟩
                · exact ⟨by omega, hbq.1 rfl⟩
              · rintro ⟨h, q⟩
                by_cases z : a = v ∧ b = w
                · exact .inr z
                · exact .inl ⟨by omega, q⟩)
            refine ⟨r, hr, ev_k ?_⟩
            simp only [impl_directed.l1, hb, Option.bind_some]
            refine ev_pos (by omega) (ev_pos trivial (ev_pos v0 (ev_pos (by have := hm.1; omega) (ev_pos w0 ?_))))
            rwa [w64 (a := w + 1) (by omega) (by omega)]
          | false =>
            have nq : ¬ Q v w := fun z => by have := hbq.2 z; cases this
            obtain ⟨r, hr, hx⟩ := ihe (w + 1) l (by omega) (by omega) (by omega) (hm.imp fun a b a0 a1 b0 b1 => by
              constructor
              · rintro ⟨h, q⟩
                exact ⟨by omega, q⟩
              · rintro ⟨h, q⟩
                by_cases z : a = v ∧ b = w
                · obtain ⟨rfl, rfl⟩ := z
                  exact absurd q nq
                · exact ⟨by omega, q⟩)
            refine ⟨r, hr, ev_k ?_⟩
            simp only [impl_directed.l1, hb, Option.bind_some]
            refine ev_pos (by omega) (ev_neg (by simp) ?_)
            rwa [w64 (a := w + 1) (by omega) (by omega)]
      obtain ⟨r, hr, hx⟩ := inner n.toNat 0 l (by omega) (by omega) (by omega) (hm.imp fun a b a0 a1 b0 b1 => and_congr (by omega) Iff.rfl)
      refine ⟨r, hr, ev_k ?_⟩
      simp only [impl_directed.l0]
      exact ev_pos (by omega) hx
  obtain ⟨r, hr, hx⟩ := outer n.toNat 0 _ (by omega) (by omega) (by omega) ((Mx.zero n n0).imp fun a b a0 a1 b0 b1 => ⟨False.elim, fun z => by omega⟩)
  refine ⟨r, hr, ?_⟩
  unfold impl_directed.f
  exact ev_pos n0 (ev_pos (by omega) hx)
end Go.Proofs.YtmofdldplbplbaaDoor.Q
namespace Go.Proofs.YtmofdldplbplbaaDoor.Q
open Go Go.RowKit Go.Proofs.YtmofdldplbplbaaDoor.P Go.Proofs.YtmofdldplbplbaaDoorW.PrintWords Go.Proofs.YtmofdldplbplbaaDoorW.PrintMore
theorem equal_l0 (a b : List Int) (e : a.length = b.length) (hl : a.length < 9223372036854775807) (d : Nat) : ∀ (i k : Nat), i + d = a.length → d < k → (∀ j, j < i → a[j]? = b[j]?) → slices_Equal_int64_int64.l0 k a b (a.length : Int) (i : Int) = some (decide (a = b)) := by
  induction d with
  | zero =>
    intro i k hi hk h
    obtain ⟨k, rfl⟩ : ∃ m, k = m + 1 := ⟨k - 1, by omega⟩
    simp only [slices_Equal_int64_int64.l0]
    rw [if_neg (by omega)]
    have : a = b := List.ext_getElem? fun j => by
      by_cases hj : j < i
      · exact h j hj
      · rw [List.getElem?_eq_none (by omega), List.getElem?_eq_none (by omega)]
    rw [decide_eq_true this]
  | succ d ih =>
    intro i k hi hk h
    obtain ⟨k, rfl⟩ : ∃ m, k = m + 1 := ⟨k - 1, by omega⟩
    simp only [slices_Equal_int64_int64.l0]
    rw [if_pos (by omega), if_pos (by omega), if_pos (by omega), if_pos (by omega)]
    by_cases z : rd a (i : Int) = rd b (i : Int)
    · rw [if_pos z, w64 (a := (i : Int) + 1) (by omega) (by omega)]
      refine ih (i + 1) k (by omega) (by omega) fun j hj => ?_
      by_cases q : j = i
      · subst q
        simp only [rd, List.getD_eq_getElem?_getD, Int.toNat_natCast] at z
        rw [List.getElem?_eq_getElem (by omega), List.getElem?_eq_getElem (by omega)] at z ⊢
        simpa using z
      · exact h j (by omega)
    · rw [if_neg z, decide_eq_false fun q => z (by rw [q])]
theorem equal_at (a b : List Int) (hl : a.length < 9223372036854775807) (k : Nat) (hk : a.length < k) : slices_Equal_int64_int64.f k a b = some (decide (a = b)) := by
  unfold slices_Equal_int64_int64.f
  by_cases e : (a.length : Int) = (b.length : Int)
  · rw [if_pos e]
    exact equal_l0 a b (by omega) hl a.length 0 k (by omega) hk fun j hj => by omega
  · rw [if_neg e, decide_eq_false fun q => e (by rw [q])]
def wordsOf (K : Nat) (l : List (List Int)) : Prop := ∀ x ∈ l, x.length = K
theorem wordsOf.at {K : Nat} {l : List (List Int)} (h : wordsOf K l) {i : Int} (i0 : 0 ≤ i) (i1 : i < l.length) : (rd_L2 l i).length = K := by
  have : i.toNat < l.length := by omega
  simp only [rd_L2, List.getD_eq_getElem?_getD, List.getElem?_eq_getElem this, Option.getD_some]
  exact h _ (List.getElem_mem this)
def foll (kz : Bool) (K : Nat) (l : List (List Int)) (v w : Int) : Prop := (rd_L2 l v).drop 1 = (rd_L2 l w).take (K - 1) ∧ (kz = true → rd (rd_L2 l w) ((K : Int) - 1) ≠ rd (rd_L2 l v) ((K : Int) - 1))
theorem s_follows (a b : List Int) (K : Nat) (ha : a.length = K) (hb : b.length = K) (h1 : 1 ≤ K) (h2 : K ≤ 10) : Says (fun k => spec_l08Follows.f k a b) (a.drop 1 = b.take (K - 1)) := by
  have loop : ∀ (d : Nat) (i : Int), 1 ≤ i → i ≤ a.length → a.length - i = d → Says (fun k => spec_l08Follows.l0 k a b i) (∀ j : Int, i ≤ j → j < a.length → rd a j = rd b (j - 1)) := by
    intro d
    induction d with
    | zero =>
      intro i i0 i1 hd
      refine says_k ?_
      simp only [spec_l08Follows.l0]
      exact says_neg (by omega) (says_true fun j _ _ => by omega)
    | succ d ih =>
      intro i i0 i1 hd
      refine says_k ?_
      simp only [spec_l08Follows.l0]
      rw [w64 (a := i - 1) (by omega) (by omega)]
      refine says_pos (by omega) (says_pos (by omega) (says_pos (by omega) (says_pos (by omega) ?_)))
      by_cases z : rd a i = rd b (i - 1)
      · refine says_pos z ?_
        rw [w64 (a := i + 1) (by omega) (by omega)]
        exact says_iff ⟨fun h j j0 j1 => h j (by omega) j1, fun h j j0 j1 => if q : j = i then by rw [q]; exact z else h j (by omega) j1⟩ (ih (i + 1) (by omega) (by omega) (by omega))
      · exact says_neg z (says_false fun h => z (h i (by omega) (by omega)))
  unfold spec_l08Follows.f
  have := foll_iff (a := a) (b := b) (by omega) (by omega)
  rw [hb] at this
  exact says_iff this.symm (loop (K - 1) 1 (by omega) (by omega) (by omega))
theorem s_wordD {K : Nat} {l : List (List Int)} (hw : wordsOf K l) (h1 : 1 ≤ K) (h2 : K ≤ 10) (kz : Bool) (n : Int) (hn : (l.length : Int) = n) (n2 : n ≤ 62) : ∃ r, Mx n r (foll kz K l) ∧ Ev (fun k => spec_l08Digraph.f k l kz) (n, r) := by
  have n0 : 0 ≤ n := by omega
  have outer : ∀ (d : Nat) (v : Int) (m : List Int), 0 ≤ v → v ≤ n → n - v = d → Mx n m (fun a b => a < v ∧ foll kz K l a b) → ∃ r, Mx n r (foll kz K l) ∧ Ev (fun k => spec_l08Digraph.l0 k l kz v n m) (n, r) := by
    intro d
    induction d with
    | zero =>
      intro v m v0 v1 hd hm
      refine ⟨m, hm.imp fun a b a0 a1 _ _ => ⟨fun z => z.2, fun z => ⟨by omega, z⟩⟩, ev_k ?_⟩
      simp only [spec_l08Digraph.l0]
      exact ev_neg (by omega) (Ev.now _)
    | succ d ih =>
      intro v m v0 v1 hd hm
      have inner : ∀ (f : Nat) (w : Int) (m : List Int), 0 ≤ w → w ≤ n → n - w = f → Mx n m (fun a b => (a < v ∨ (a = v ∧ b < w)) ∧ foll kz K l a b) → ∃ r, Mx n r (foll kz K l) ∧ Ev (fun k => spec_l08Digraph.l1 k l kz v w n m) (n, r) := by
        intro f
        induction f with
        | zero =>
          intro w m w0 w1 he hm
          obtain ⟨r, hr, hx⟩ := ih (v + 1) m (by omega) (by omega) (by omega) (hm.imp fun a b a0 a1 b0 b1 => and_congr ⟨fun _ => by omega, fun _ => by omega⟩ Iff.rfl)
          refine ⟨r, hr, ev_k ?_⟩
          simp only [spec_l08Digraph.l1]
          refine ev_neg (by omega) ?_
          rwa [w64 (a := v + 1) (by omega) (by omega)]
        | succ f ihf =>
          intro w m w0 w1 he hm
          have lv := hw.at v0 (by omega : v < l.length)
          have lw := hw.at w0 (by omega : w < l.length)
          have hf := s_follows (rd_L2 l v) (rd_L2 l w) K lv lw h1 h2
          have skip : ¬ foll kz K l v w → ∃ r, Mx n r (foll kz K l) ∧ Ev (fun k => spec_l08Digraph.l1 k l kz v (w + 1) n m) (n, r) := fun hn => ihf (w + 1) m (by omega) (by omega) (by omega) (hm.imp fun a b a0 a1 b0 b1 => by
            constructor
            · rintro ⟨h, q⟩
              exact ⟨by omega, q⟩
            · rintro ⟨h, q⟩
              by_cases z : a = v ∧ b = w
              · obtain ⟨rfl, rfl⟩ := z
                exact absurd q hn
              · exact ⟨by omega, q⟩)
          have put : foll kz K l v w → ∃ r, Mx n r (foll kz K l) ∧ Ev (fun k => spec_l08Digraph.l1 k l kz v (w + 1) n (m.set v.toNat (Go.bits .or .i64 (rd m v) (shl .i64 1 w)))) (n, r) := fun hb => ihf (w + 1) _ (by omega) (by omega) (by omega) ((hm.or n2 v0 (by omega) w0 (by omega : w < n)).imp (Q := fun a b => (a < v ∨ (a = v ∧ b < w + 1)) ∧ foll kz K l a b) fun a b a0 a1 b0 b1 => by
            constructor
            · rintro (⟨h, q⟩ | ⟨rfl, rfl⟩)
              · exact ⟨by omega, q⟩
              · exact ⟨by omega, hb⟩
            · rintro ⟨h, q⟩
              by_cases z : a = v ∧ b = w
              · exact .inr z
              · exact .inl ⟨by omega, q⟩)
          have hml := hm.1
          have pre : ∀ {q : Int × List Int}, Ev (fun k => (spec_l08Follows.f k (rd_L2 l v) (rd_L2 l w)).bind fun t => if t = true then (if kz = true then (if 0 ≤ (wrap64 (((rd_L2 l w).length : Int) - 1)) then (if (wrap64 (((rd_L2 l w).length : Int) - 1)) < ((rd_L2 l w).length : Int) then (if ((rd (rd_L2 l w) (wrap64 (((rd_L2 l w).length : Int) - 1))) = (rd (rd_L2 l v) (wrap64 (((rd_L2 l v).length : Int) - 1)))) then (spec_l08Digraph.l1 k l kz v (wrap64 (w + 1)) n m) else (if v < (m.length : Int) then (if 0 ≤ (IntKind.u64.wrap (w)) then (spec_l08Digraph.l1 k l kz v (wrap64 (w + 1)) n (m.set (v : Int).toNat (Go.bits .or .i64 (rd m v) (shl .i64 1 (IntKind.u64.wrap (w)))))) else (none)) else (none))) else (none)) else (none)) else (if v < (m.length : Int) then (if 0 ≤ (IntKind.u64.wrap (w)) then (spec_l08Digraph.l1 k l kz v (wrap64 (w + 1)) n (m.set (v : Int).toNat (Go.bits .or .i64 (rd m v) (shl .i64 1 (IntKind.u64.wrap (w)))))) else (none)) else (none))) else (spec_l08Digraph.l1 k l kz v (wrap64 (w + 1)) n m)) q → Ev (fun k => spec_l08Digraph.l1 k l kz v w n m) q := fun h => by
            refine ev_k ?_
            simp only [spec_l08Digraph.l1]
            refine ev_pos (by omega) (ev_pos v0 (ev_pos (by omega) ?_))
            have ew : wrap64 (((rd_L2 l v).length : Int) - 1) = (K : Int) - 1 := by rw [lv]; exact w64 (by omega) (by omega)
            refine ev_pos (by rw [ew]; omega) (ev_pos (by rw [ew, lv]; omega) (ev_pos w0 h))
          have ew : wrap64 (w + 1) = w + 1 := w64 (by omega) (by omega)
          have evv : wrap64 (((rd_L2 l v).length : Int) - 1) = (K : Int) - 1 := by rw [lv]; exact w64 (by omega) (by omega)
          have eww : wrap64 (((rd_L2 l w).length : Int) - 1) = (K : Int) - 1 := by rw [lw]; exact w64 (by omega) (by omega)
          rw [ew, evv, eww, wu64 w0 (by omega)] at pre
          by_cases hd1 : (rd_L2 l v).drop 1 = (rd_L2 l w).take (K - 1)
          · cases kz with
            | true =>
              by_cases hd2 : rd (rd_L2 l w) ((K : Int) - 1) = rd (rd_L2 l v) ((K : Int) - 1)
              · obtain ⟨r, hr, hx⟩ := skip fun q => q.2 rfl hd2
                exact ⟨r, hr, pre (Ev.bind (hf.yes hd1) (ev_pos rfl (ev_pos rfl (ev_pos (by omega) (ev_pos (by omega) (ev_pos hd2 hx))))))⟩
              · obtain ⟨r, hr, hx⟩ := put ⟨hd1, fun _ => hd2⟩
                exact ⟨r, hr, pre (Ev.bind (hf.yes hd1) (ev_pos rfl (ev_pos rfl (ev_pos (by omega) (ev_pos (by omega) (ev_neg hd2 (ev_pos (by omega) (ev_pos w0 hx))))))))⟩
            | false =>
              obtain ⟨r, hr, hx⟩ := put ⟨hd1, fun q => by cases q⟩
              exact ⟨r, hr, pre (Ev.bind (hf.yes hd1) (ev_pos rfl (ev_neg (by decide) (ev_pos (by omega) (ev_pos w0 hx)))))⟩
          · obtain ⟨r, hr, hx⟩ := skip fun q => hd1 q.1
            exact ⟨r, hr, pre (Ev.bind (hf.no hd1) (ev_neg (by decide) hx))⟩
      obtain ⟨r, hr, hx⟩ := inner n.toNat 0 m (by omega) (by omega) (by omega) (hm.imp fun a b a0 a1 b0 b1 => and_congr (by omega) Iff.rfl)
      refine ⟨r, hr, ev_k ?_⟩
      simp only [spec_l08Digraph.l0]
      exact ev_pos (by omega) hx
  obtain ⟨r, hr, hx⟩ := outer n.toNat 0 _ (by omega) (by omega) (by omega) ((Mx.zero n n0).imp fun a b a0 a1 b0 b1 => ⟨False.elim, fun z => by omega⟩)
  refine ⟨r, hr, ?_⟩
  unfold spec_l08Digraph.f
  rw [hn]
  exact ev_pos n0 (ev_pos (by omega) hx)
theorem i_wordD {K : Nat} {l : List (List Int)} (hw : wordsOf K l) (h1 : 1 ≤ K) (h2 : K ≤ 10) (n : Int) (hn : (l.length : Int) = n) (n2 : n ≤ 62) : ∃ r, Mx n r (foll false K l) ∧ Ev (fun k => impl_wordDigraph.f k l) (n, r) := by
  have eis : ∀ v u : Int, 0 ≤ v → v < l.length → 0 ≤ u → u < l.length → ∀ k, 12 ≤ k → impl_wordDigraph.is k l v u = some (decide ((rd_L2 l v).drop 1 = (rd_L2 l u).take (K - 1))) := by
    intro v u v0 v1 u0 u1 k hk
    have lv := hw.at v0 v1
    have lu := hw.at u0 u1
    unfold impl_wordDigraph.is
    rw [if_pos v0, if_pos v1, if_pos (by omega), if_pos u0, if_pos u1, if_pos (by omega), lu]
    exact equal_at _ _ (by rw [List.length_drop]; omega) k (by rw [List.length_drop]; omega)
  have efun : ∀ k, 12 ≤ k → impl_wordDigraph.is k l = impl_wordDigraph.is 12 l := by
    intro k hk
    funext v u
    by_cases h : (0 ≤ v ∧ v < l.length) ∧ 0 ≤ u ∧ u < l.length
    · rw [eis v u h.1.1 h.1.2 h.2.1 h.2.2 k hk, eis v u h.1.1 h.1.2 h.2.1 h.2.2 12 (Nat.le_refl _)]
    · unfold impl_wordDigraph.is
      by_cases v0 : 0 ≤ v
      · by_cases v1 : v < l.length
        · by_cases u0 : 0 ≤ u
          · simp [show ¬ u < (l.length : Int) by omega]
          · simp [u0]
        · simp [v1]
      · simp [v0]
  obtain ⟨r, hr, hx⟩ := i_directed n (by omega) n2 (impl_wordDigraph.is 12 l) (foll false K l) fun v w v0 v1 w0 w1 => ⟨_, eis v w v0 (by omega) w0 (by omega) 12 (Nat.le_refl _), by simp [foll]⟩
  refine ⟨r, hr, ?_⟩
  obtain ⟨k0, hk0⟩ := hx
  refine ⟨k0 + 12, fun k hk => ?_⟩
  show impl_wordDigraph.f k l = _
  unfold impl_wordDigraph.f
  have hz : impl_directed.f (impl_wordDigraph.is 12 l) k n = some (n, r) := hk0 k (by omega)
  rw [efun k (by omega), hn, hz]
  rfl
theorem i_kautzD {K : Nat} {l : List (List Int)} (hw : wordsOf K l) (h1 : 1 ≤ K) (h2 : K ≤ 10) (n : Int) (hn : (l.length : Int) = n) (n2 : n ≤ 62) : ∃ r, Mx n r (foll true K l) ∧ Ev (fun k => impl_directed.f (impl_kautz.is k (K : Int) l) k n) (n, r) := by
  have eis : ∀ v u : Int, 0 ≤ v → v < l.length → 0 ≤ u → u < l.length → ∀ k, 12 ≤ k → impl_kautz.is k (K : Int) l v u = some (decide ((rd_L2 l v).drop 1 = (rd_L2 l u).take (K - 1)) && (rd (rd_L2 l v) ((K : Int) - 1) != rd (rd_L2 l u) ((K : Int) - 1))) := by
    intro v u v0 v1 u0 u1 k hk
    have lv := hw.at v0 v1
    have lu := hw.at u0 u1
    unfold impl_kautz.is
    rw [if_pos v0, if_pos v1, if_pos (by omega), if_pos (by omega), if_pos u0, if_pos u1, if_pos (by omega), show ((K : Int) - 1).toNat = K - 1 by omega, equal_at _ _ (by rw [List.length_drop]; omega) k (by rw [List.length_drop]; omega)]
    rfl
  have efun : ∀ k, 12 ≤ k → impl_kautz.is k (K : Int) l = impl_kautz.is 12 (K : Int) l := by
    intro k hk
    funext v u
    by_cases h : (0 ≤ v ∧ v < l.length) ∧ 0 ≤ u ∧ u < l.length
    · rw [eis v u h.1.1 h.1.2 h.2.1 h.2.2 k hk, eis v u h.1.1 h.1.2 h.2.1 h.2.2 12 (Nat.le_refl _)]
    · unfold impl_kautz.is
      by_cases v0 : 0 ≤ v
      · by_cases v1 : v < l.length
        · by_cases u0 : 0 ≤ u
          · simp [show ¬ u < (l.length : Int) by omega]
          · simp [u0]
        · simp [v1]
      · simp [v0]
  obtain ⟨r, hr, hx⟩ := i_directed n (by omega) n2 (impl_kautz.is 12 (K : Int) l) (foll true K l) fun v w v0 v1 w0 w1 => ⟨_, eis v w v0 (by omega) w0 (by omega) 12 (Nat.le_refl _), by
    simp only [foll, Bool.and_eq_true, decide_eq_true_eq, bne_iff_ne, ne_eq, forall_const]
    exact and_congr Iff.rfl ⟨fun h q => h q.symm, fun h q => h q.symm⟩⟩
  refine ⟨r, hr, ?_⟩
  obtain ⟨k0, hk0⟩ := hx
  refine ⟨k0 + 12, fun k hk => ?_⟩
  show impl_directed.f (impl_kautz.is k (K : Int) l) k n = _
  have hz : impl_directed.f (impl_kautz.is 12 (K : Int) l) k n = some (n, r) := hk0 k (by omega)
  rw [efun k (by omega), hz]
end Go.Proofs.YtmofdldplbplbaaDoor.Q
namespace Go.Proofs.YtmofdldplbplbaaDoor.Q
open Go Go.RowKit Go.Proofs.YtmofdldplbplbaaDoor.P Go.Proofs.YtmofdldplbplbaaDoorW.PrintWords Go.Proofs.YtmofdldplbplbaaDoorW.PrintMore
def onesFrom (x : Nat) : Nat → Nat → List Int
  | 0, _ => []
  | d + 1, m => if x.testBit m then (m : Int) :: onesFrom x d (m + 1) else onesFrom x d (m + 1)
theorem onesFrom_zero (d : Nat) : ∀ m, onesFrom 0 d m = [] := by
  induction d with
  | zero => intro m; rfl
  | succ d ih => intro m; simp [onesFrom, ih]
theorem onesFrom_congr (x y : Nat) (d : Nat) : ∀ m, (∀ i, m ≤ i → x.testBit i = y.testBit i) → onesFrom x d m = onesFrom y d m := by
  induction d with
  | zero => intro m _; rfl
  | succ d ih =>
    intro m h
    simp only [onesFrom]
    rw [h m (Nat.le_refl _), ih (m + 1) fun i hi => h i (by omega)]
theorem ctz_at {x m : Nat} (hx : x < 2 ^ 64) (hb : x.testBit m = true) (hl : ∀ i, i < m → x.testBit i = false) : Lib.ctz 64 x = m ∧ ∃ q, x = 2 ^ m * (2 * q + 1) := by
  have h0 : x ≠ 0 := by rintro rfl; simp at hb
  obtain ⟨q, e, _⟩ := Lib.ctzFrom_spec 64 x (by omega) hx
  have ec : Lib.ctz 64 x = Lib.ctzFrom 64 x := by simp [Lib.ctz, h0]
  have ht : ∀ i, x.testBit i = (decide (i ≥ Lib.ctzFrom 64 x) && (2 * q + 1).testBit (i - Lib.ctzFrom 64 x)) := fun i => by rw [← Nat.testBit_two_pow_mul, ← e]
  generalize Lib.ctzFrom 64 x = c at *
  have hc : c = m := by
    rcases Nat.lt_trichotomy c m with h | h | h
    · have a := hl c h
      rw [ht c] at a
      simp at a
    · exact h
    · rw [ht m] at hb
      have : ¬ m ≥ c := by omega
      simp [this] at hb
  subst hc
  exact ⟨ec, q, e⟩
theorem and_pred {m q : Nat} : (2 ^ m * (2 * q + 1)) &&& (2 ^ m * (2 * q + 1) - 1) = 2 ^ m * (2 * q) := by
  have p := Nat.two_pow_pos m
  have e : 2 ^ m * (2 * q + 1) - 1 = 2 ^ m * (2 * q) + (2 ^ m - 1) := by rw [Nat.mul_add]; omega
  rw [e]
  refine Nat.eq_of_testBit_eq fun i => ?_
  rw [Nat.testBit_and, Nat.testBit_two_pow_mul, Nat.testBit_two_pow_mul_add _ (by omega), Nat.testBit_two_pow_mul]
  by_cases h : i < m
  · have : ¬ i ≥ m := by omega
    simp [this]
  · have : i ≥ m := by omega
    simp only [this, decide_true, Bool.true_and, h, if_false]
    cases i - m with
    | zero => simp
    | succ j => simp [Nat.testBit_succ]; rw [show (2 * q + 1) / 2 = q by omega]; simp
theorem pred_bit {m q i : Nat} (h : m < i) : (2 ^ m * (2 * q)).testBit i = (2 ^ m * (2 * q + 1)).testBit i := by
  rw [Nat.testBit_two_pow_mul, Nat.testBit_two_pow_mul]
  obtain ⟨j, hj⟩ : ∃ j, i - m = j + 1 := ⟨i - m - 1, by omega⟩
  rw [hj, Nat.testBit_succ, Nat.testBit_succ, show (2 * q + 1) / 2 = 2 * q / 2 by omega]
theorem pred_low {m q i : Nat} (h : i < m + 1) : (2 ^ m * (2 * q)).testBit i = false := by
  rw [Nat.testBit_two_pow_mul]
  by_cases e : i = m
  · subst e
    simp
  · have : ¬ i ≥ m := by omega
    simp [this]
theorem i_list_l0 (d : Nat) : ∀ (m x : Nat) (acc : List Int), d + m = 62 → x < 2 ^ 62 → (∀ i, i < m → x.testBit i = false) → acc.length ≤ m → Ev (fun k => impl_list.l0 k (x : Int) acc) (acc ++ onesFrom x d m) := by
  have done : ∀ d m (acc : List Int), Ev (fun k => impl_list.l0 k ((0 : Nat) : Int) acc) (acc ++ onesFrom 0 d m) := by
    intro d m acc
    rw [onesFrom_zero, List.append_nil]
    refine ev_k ?_
    simp only [impl_list.l0]
    exact ev_pos rfl (Ev.now _)
  induction d with
  | zero =>
    intro m x acc hd hx hl ha
    have : x = 0 := by
      refine Nat.eq_of_testBit_eq fun i => ?_
      rw [Nat.zero_testBit]
      by_cases hi : i < m
      · exact hl i hi
      · exact Nat.testBit_lt_two_pow (Nat.lt_of_lt_of_le hx (Nat.pow_le_pow_right (by decide) (by omega)))
    subst this
    exact done 0 m acc
  | succ d ih =>
    intro m x acc hd hx hl ha
    by_cases hb : x.testBit m = true
    · obtain ⟨hc, q, e⟩ := ctz_at (Nat.lt_trans hx (by decide)) hb hl
      have x0 : x ≠ 0 := by rintro rfl; simp at hb
      have hq : 2 ^ m * (2 * q) < 2 ^ 62 := Nat.lt_of_le_of_lt (Nat.mul_le_mul_left _ (by omega)) (e ▸ hx)
      have := ih (m + 1) (2 ^ m * (2 * q)) (acc ++ [(m : Int)]) (by omega) hq (fun i hi => pred_low hi) (by simp; omega)
      have e2 : acc ++ onesFrom x (d + 1) m = acc ++ [(m : Int)] ++ onesFrom (2 ^ m * (2 * q)) d (m + 1) := by
        simp only [onesFrom, hb, if_true]
        rw [onesFrom_congr x (2 ^ m * (2 * q)) d (m + 1) fun i hi => by rw [pred_bit (by omega), ← e]]
        simp
      rw [e2]
      refine ev_k ?_
      simp only [impl_list.l0]
      refine ev_neg (by omega) ?_
      rw [wu64 (a := (x : Int)) (by omega) (by omega), w64 (a := (x : Int) - 1) (by omega) (by omega), show (x : Int) - 1 = ((x - 1 : Nat) : Int) by omega, and_nat x (x - 1) (by omega) (by omega)]
      have ex : x &&& (x - 1) = 2 ^ m * (2 * q) := by rw [e]; exact and_pred
      rw [ex]
      refine ev_bind0 (a := (m : Int)) ?_ (ev_pos (by omega) this)
      unfold bits_TrailingZeros64.f
      rw [if_pos (by omega), if_pos (by omega), Int.toNat_natCast, hc]
    · have := ih (m + 1) x acc (by omega) hx (fun i hi => if h : i = m then by rw [h]; simpa using hb else hl i (by omega)) (by omega)
      have e : onesFrom x (d + 1) m = onesFrom x d (m + 1) := by simp [onesFrom, hb]
      rwa [e]
def ones (x : Int) : List Int := onesFrom x.toNat 62 0
theorem i_list {x : Int} (h0 : 0 ≤ x) (h1 : x < 4611686018427387904) : Ev (fun k => impl_list.f k x) (ones x) := by
  obtain ⟨y, rfl⟩ := Int.eq_ofNat_of_zero_le h0
  unfold impl_list.f ones
  rw [Int.toNat_natCast]
  have := i_list_l0 62 0 y [] (by omega) (by omega) (fun i hi => by omega) (by simp)
  simpa using this
theorem onesFrom_mem (x : Nat) (d : Nat) : ∀ m (v : Int), v ∈ onesFrom x d m ↔ ∃ i : Nat, v = (i : Int) ∧ m ≤ i ∧ i < m + d ∧ x.testBit i = true := by
  induction d with
  | zero => intro m v; simp [onesFrom]; intro i _ _; omega
  | succ d ih =>
    intro m v
    simp only [onesFrom]
    have s : (∃ i : Nat, v = (i : Int) ∧ m ≤ i ∧ i < m + (d + 1) ∧ x.testBit i = true) ↔ (v = (m : Int) ∧ x.testBit m = true) ∨ ∃ i : Nat, v = (i : Int) ∧ m + 1 ≤ i ∧ i < m + 1 + d ∧ x.testBit i = true := by
      constructor
      · rintro ⟨i, rfl, h1, h2, h3⟩
        by_cases e : i = m
        · subst e
          exact .inl ⟨rfl, h3⟩
        · exact .inr ⟨i, rfl, by omega, by omega, h3⟩
      · rintro (⟨rfl, h⟩ | ⟨i, rfl, h1, h2, h3⟩)
        · exact ⟨m, rfl, by omega, by omega, h⟩
        · exact ⟨i, rfl, by omega, by omega, h3⟩
    rw [s, ← ih]
    by_cases h : x.testBit m = true
    · rw [if_pos h]
      simp [h]
    · rw [if_neg h]
      simp [h]
theorem ones_mem {n x : Int} (n0 : 0 ≤ n) (n2 : n ≤ 62) (x0 : 0 ≤ x) (x1 : x < 2 ^ n.toNat) (v : Int) : v ∈ ones x ↔ 0 ≤ v ∧ v < n ∧ tb x v = true := by
  unfold ones
  rw [onesFrom_mem]
  constructor
  · rintro ⟨i, rfl, h1, h2, h3⟩
    have ht : tb x i = true := by rw [tb_toNat x0 (by omega)]; simpa using h3
    refine ⟨by omega, ?_, ht⟩
    by_cases h : (i : Int) < n
    · exact h
    · rw [tb_high x0 x1 n0 (by omega)] at ht
      cases ht
  · rintro ⟨h1, h2, h3⟩
    refine ⟨v.toNat, by omega, by omega, by omega, ?_⟩
    rwa [tb_toNat x0 h1] at h3
theorem onesFrom_length (x : Nat) (d : Nat) : ∀ m, (onesFrom x d m).length ≤ d := by
  induction d with
  | zero => intro m; simp [onesFrom]
  | succ d ih =>
    intro m
    simp only [onesFrom]
    have := ih (m + 1)
    split <;> simp <;> omega
theorem ones_length (x : Int) : (ones x).length ≤ 62 := onesFrom_length _ 62 0
theorem onesFrom_high (x : Nat) (d e : Nat) : ∀ m, x < 2 ^ (m + d) → onesFrom x (d + e) m = onesFrom x d m := by
  induction d with
  | zero =>
    intro m h
    rw [Nat.zero_add]
    induction e generalizing m with
    | zero => rfl
    | succ e ihe =>
      have hb : x.testBit m = false := Nat.testBit_lt_two_pow h
      simp only [onesFrom, hb]
      rw [ihe (m + 1) (Nat.lt_of_lt_of_le h (Nat.pow_le_pow_right (by decide) (by omega)))]
      simp [onesFrom]
  | succ d ih =>
    intro m h
    rw [show d + 1 + e = (d + e) + 1 by omega]
    simp only [onesFrom]
    rw [ih (m + 1) (by rwa [show m + 1 + d = m + (d + 1) by omega])]
theorem ones_to {n x : Int} (n0 : 0 ≤ n) (n2 : n ≤ 62) (x0 : 0 ≤ x) (x1 : x < 2 ^ n.toNat) : ones x = onesFrom x.toNat n.toNat 0 := by
  unfold ones
  have e : ((2 : Int) ^ n.toNat) = ((2 ^ n.toNat : Nat) : Int) := by simp
  rw [e] at x1
  have := onesFrom_high x.toNat n.toNat (62 - n.toNat) 0 (by rw [Nat.zero_add]; omega)
  rwa [show n.toNat + (62 - n.toNat) = 62 by omega] at this
end Go.Proofs.YtmofdldplbplbaaDoor.Q
namespace Go.Proofs.YtmofdldplbplbaaDoor.Q
open Go Go.RowKit Go.Proofs.YtmofdldplbplbaaDoor.P Go.Proofs.YtmofdldplbplbaaDoorW.PrintWords Go.Proofs.YtmofdldplbplbaaDoorW.PrintMore
theorem rows_all {n : Int} {l : List Int} (hn : (l.length : Int) = n) (P : Int → Prop) : (∀ x ∈ l, P x) ↔ ∀ v, 0 ≤ v → v < n → P (rd l v) := by
  constructor
  · intro h v v0 v1
    have hv : v.toNat < l.length := by omega
    have : rd l v = l[v.toNat] := by simp [rd, List.getD_eq_getElem?_getD, List.getElem?_eq_getElem hv]
    rw [this]
    exact h _ (List.getElem_mem _)
  · intro h x hx
    obtain ⟨i, hi, rfl⟩ := List.getElem_of_mem hx
    have := h i (by omega) (by omega)
    have e : rd l (i : Int) = l[i] := by simp [rd, List.getD_eq_getElem?_getD, List.getElem?_eq_getElem hi]
    rwa [e] at this
theorem s_di (n : Int) (l : List Int) : Says (fun k => spec_l08Is.f k n l) (rows n l) := by
  have bad : ¬ rows n l → Says (fun k => spec_l08Is.j0 k true n l) (rows n l) := fun h => by
    refine says_k ?_
    simp only [spec_l08Is.j0]
    exact says_pos trivial (says_false h)
  unfold spec_l08Is.f
  rw [s_in]
  simp only [Option.bind_some]
  by_cases h1 : 1 ≤ n ∧ n ≤ 62
  · refine says_pos (decide_eq_true h1) ?_
    by_cases h2 : (l.length : Int) = n
    · refine says_k ?_
      simp only [spec_l08Is.j0]
      refine says_neg (by simp [h2]) ?_
      have hp := two_pow_le (n := n) (by omega) h1.2
      have loop : ∀ (d : Nat) (v : Int), 0 ≤ v → v ≤ n → n - v = d → Says (fun k => spec_l08Is.l0 k v n l) (∀ a, v ≤ a → a < n → 0 ≤ rd l a ∧ rd l a < 2 ^ n.toNat) := by
        intro d
        induction d with
        | zero =>
          intro v v0 v1 hd
          refine says_k ?_
          simp only [spec_l08Is.l0]
          exact says_neg (by omega) (says_true fun a _ _ => by omega)
        | succ d ih =>
          intro v v0 v1 hd
          refine says_k ?_
          simp only [spec_l08Is.l0]
          rw [wu64 (a := n) (by omega) (by omega), shl_one (by omega) h1.2, w64 (a := 2 ^ n.toNat - 1) (by omega) (by omega), s_in]
          simp only [Option.bind_some]
          refine says_pos (by omega) (says_pos v0 (says_pos (by omega) ?_))
          by_cases h : 0 ≤ rd l v ∧ rd l v ≤ 2 ^ n.toNat - 1
          · refine says_pos (decide_eq_true h) ?_
            rw [w64 (a := v + 1) (by omega) (by omega)]
            exact says_iff ⟨fun z a a0 a1 => z a (by omega) a1, fun z a a0 a1 => if ha : a = v then by subst ha; omega else z a (by omega) a1⟩ (ih (v + 1) (by omega) (by omega) (by omega))
          · exact says_neg (by simpa using h) (says_false fun z => h (by have := z v (by omega) (by omega); omega))
      exact says_iff ⟨fun z => z.2.2.2, fun z => ⟨h1.1, h1.2, h2, z⟩⟩ (loop n.toNat 0 (by omega) (by omega) (by omega))
    · rw [show ((l.length : Int) != n) = true by simpa using h2]
      exact bad fun z => h2 z.2.2.1
  · exact says_neg (by simpa using h1) (bad fun z => h1 ⟨z.1, z.2.1⟩)
theorem i_di (n : Int) (l : List Int) : ∃ b, impl_IsDigraph.f n l = some b ∧ (b = true ↔ rows n l) := by
  unfold impl_IsDigraph.f
  by_cases h1 : n < 1
  · exact ⟨false, if_pos h1, by simp; intro z; have := z.1; omega⟩
  · rw [if_neg h1]
    by_cases h2 : n > 62
    · exact ⟨false, if_pos h2, by simp; intro z; have := z.2.1; omega⟩
    · rw [if_neg h2]
      by_cases h3 : (l.length : Int) = n
      · rw [if_pos h3]
        have hp := two_pow_le (n := n) (by omega) (by omega)
        refine ⟨_, rfl, ?_⟩
        rw [w64 (a := 2 ^ n.toNat) (by omega) (by omega)]
        have : (!(l.any fun row => decide (row < 0) || decide (2 ^ n.toNat ≤ row))) = true ↔ ∀ x ∈ l, 0 ≤ x ∧ x < 2 ^ n.toNat := by
          simp only [Bool.not_eq_true', List.any_eq_false, Bool.or_eq_true, decide_eq_true_eq, not_or, Int.not_lt, Int.not_le]
        rw [this, rows_all h3]
        exact ⟨fun z => ⟨by omega, by omega, h3, z⟩, fun z => z.2.2.2⟩
      · exact ⟨false, if_neg h3, by simp; intro z; exact h3 z.2.2.1⟩
theorem i_di_yes {n : Int} {l : List Int} (h : rows n l) : impl_IsDigraph.f n l = some true := by
  obtain ⟨b, hb, e⟩ := i_di n l
  rw [hb, e.2 h]
theorem i_di_no {n : Int} {l : List Int} (h : ¬ rows n l) : impl_IsDigraph.f n l = some false := by
  obtain ⟨b, hb, e⟩ := i_di n l
  cases b with
  | true => exact absurd (e.1 rfl) h
  | false => exact hb
theorem d_has (n : Int) (l : List Int) (v w : Int) (v0 : 0 ≤ v) (v1 : v < l.length) (w0 : 0 ≤ w) (w1 : w ≤ 63) : spec_l08Has.f n l v w = some (tb (rd l v) w) := by
  unfold spec_l08Has.f
  rw [if_pos v0, if_pos v1, wu64 w0 (by omega), if_pos w0, bit_is w0 w1]
end Go.Proofs.YtmofdldplbplbaaDoor.Q
namespace Go.Proofs.YtmofdldplbplbaaDoor.Q
open Go Go.RowKit Go.Proofs.YtmofdldplbplbaaDoor.P Go.Proofs.YtmofdldplbplbaaDoorW.PrintWords Go.Proofs.YtmofdldplbplbaaDoorW.PrintMore
def arcRow (v : Int) (ws : List Int) : List (List Int) := ws.map fun w => [v, w]
def arcsTo (l : List Int) : Nat → List (List Int)
  | 0 => []
  | m + 1 => arcsTo l m ++ arcRow (m : Int) (ones (rd l (m : Int)))
theorem arcRow_app (v : Int) (a b : List Int) : arcRow v (a ++ b) = arcRow v a ++ arcRow v b := by simp [arcRow]
theorem arcRow_length (v : Int) (a : List Int) : (arcRow v a).length = a.length := by simp [arcRow]
theorem arcsTo_length (l : List Int) (m : Nat) : (arcsTo l m).length ≤ m * 62 := by
  induction m with
  | zero => simp [arcsTo]
  | succ m ih =>
    have b := ones_length (rd l (m : Int))
    simp only [arcsTo, List.length_append, arcRow_length]
    omega
theorem arcsTo_mem {n : Int} {l : List Int} (h : rows n l) (m : Nat) (hm : (m : Int) ≤ n) (e : List Int) : e ∈ arcsTo l m ↔ ∃ v w : Int, (0 ≤ v ∧ v < m) ∧ (0 ≤ w ∧ w < n) ∧ tb (rd l v) w = true ∧ e = [v, w] := by
  have n2 := h.2.1
  induction m with
  | zero =>
    simp only [arcsTo, List.not_mem_nil, false_iff]
    rintro ⟨v, w, hv, _⟩
    omega
  | succ m ih =>
    have hr := h.2.2.2 (m : Int) (by omega) (by omega)
    simp only [arcsTo, List.mem_append]
    refine Iff.trans (or_congr (ih (by omega)) Iff.rfl) ?_
    constructor
    · rintro (⟨v, w, hv, hw⟩ | he)
      · exact ⟨v, w, by omega, hw⟩
      · obtain ⟨w, hw, rfl⟩ := List.mem_map.1 he
        obtain ⟨w0, w1, wt⟩ := (ones_mem (by omega) n2 hr.1 hr.2 w).1 hw
        exact ⟨m, w, by omega, ⟨w0, w1⟩, wt, rfl⟩
    · rintro ⟨v, w, hv, hw, ht, rfl⟩
      by_cases z : v = m
      · subst z
        exact .inr (List.mem_map.2 ⟨w, (ones_mem (by omega) n2 hr.1 hr.2 w).2 ⟨hw.1, hw.2, ht⟩, rfl⟩)
      · exact .inl ⟨v, w, by omega, hw, ht, rfl⟩
theorem i_arcs {n : Int} {l : List Int} (h : rows n l) : Ev (fun k => impl_Digraph_arcs.f k n l) (arcsTo l n.toNat) := by
  have n1 := h.1
  have n2 := h.2.1
  have hl := h.2.2.1
  have loop : ∀ (d v : Nat), (v : Int) ≤ n → n - v = d → Ev (fun k => impl_Digraph_arcs.l0 k (arcsTo l v) l (l.length : Int) v) (arcsTo l n.toNat) := by
    intro d
    induction d with
    | zero =>
      intro v v1 hd
      refine ev_k ?_
      simp only [impl_Digraph_arcs.l0]
      refine ev_neg (by omega) (ev_some ?_)
      rw [show v = n.toNat by omega]
    | succ d ih =>
      intro v v1 hd
      have hr := h.2.2.2 (v : Int) (by omega) (by omega)
      have hp := two_pow_le (n := n) (by omega) n2
      have ol := ones_length (rd l (v : Int))
      have el := arcsTo_length l v
      have inner : ∀ (ws pre : List Int), pre ++ ws = ones (rd l (v : Int)) → Ev (fun k => impl_Digraph_arcs.l1 k (arcsTo l v ++ arcRow v pre) v l (l.length : Int) v (ones (rd l (v : Int))) ((ones (rd l (v : Int))).length : Int) (pre.length : Int)) (arcsTo l n.toNat) := by
        intro ws
        induction ws with
        | nil =>
          intro pre hpre
          rw [List.append_nil] at hpre
          have := ih (v + 1) (by omega) (by omega)
          refine ev_k ?_
          simp only [impl_Digraph_arcs.l1]
          rw [w64 (a := (v : Int) + 1) (by omega) (by omega), hpre]
          exact ev_neg (by omega) this
        | cons w ws ihw =>
          intro pre hpre
          have hlt : pre.length < (ones (rd l (v : Int))).length := by rw [← hpre]; simp
          have hw : rd (ones (rd l (v : Int))) (pre.length : Int) = w := by
            rw [← hpre]
            simp [rd, List.getD_eq_getElem?_getD]
          have hrl := arcRow_length (v : Int) pre
          have := ihw (pre ++ [w]) (by rw [← hpre]; simp)
          rw [arcRow_app, List.length_append, List.length_singleton, Int.natCast_add, show arcRow (v : Int) [w] = [[(v : Int), w]] from rfl, ← List.append_assoc] at this
          refine ev_k ?_
          simp only [impl_Digraph_arcs.l1, hw]
          rw [w64 (a := (pre.length : Int) + 1) (by omega) (by omega)]
          exact ev_pos (by omega) (ev_pos (by omega) (ev_pos (by omega) (ev_pos (by simp only [List.length_append]; omega) this)))
      have := inner (ones (rd l (v : Int))) [] rfl
      rw [show arcRow (v : Int) [] = [] from rfl, List.append_nil] at this
      refine ev_k ?_
      simp only [impl_Digraph_arcs.l0]
      exact ev_pos (by omega) (ev_pos (by omega) (ev_pos (by omega) (Ev.bind (i_list hr.1 (by omega)) this)))
  unfold impl_Digraph_arcs.f
  exact loop n.toNat 0 (by omega) (by omega)
theorem s_arcs {n : Int} {l : List Int} (h : rows n l) : Ev (fun k => spec_l08Arcs.f k n l) (arcsTo l n.toNat) := by
  have n1 := h.1
  have n2 := h.2.1
  have hl := h.2.2.1
  have loop : ∀ (d v : Nat), (v : Int) ≤ n → n - v = d → Ev (fun k => spec_l08Arcs.l0 k (arcsTo l v) v n l) (arcsTo l n.toNat) := by
    intro d
    induction d with
    | zero =>
      intro v v1 hd
      refine ev_k ?_
      simp only [spec_l08Arcs.l0]
      refine ev_neg (by omega) (ev_some ?_)
      rw [show v = n.toNat by omega]
    | succ d ih =>
      intro v v1 hd
      have hr := h.2.2.2 (v : Int) (by omega) (by omega)
      have hp := two_pow_le (n := n) (by omega) n2
      have el := arcsTo_length l v
      have hto := ones_to (n := n) (by omega) n2 hr.1 hr.2
      have inner : ∀ (e w : Nat) (acc : List (List Int)), (w : Int) ≤ n → n.toNat - w = e → acc.length + e ≤ 4000 → acc ++ arcRow v (onesFrom (rd l (v : Int)).toNat e w) = arcsTo l (v + 1) → Ev (fun k => spec_l08Arcs.l1 k acc v w n l) (arcsTo l n.toNat) := by
        intro e
        induction e with
        | zero =>
          intro w acc w1 he hal hacc
          have := ih (v + 1) (by omega) (by omega)
          rw [← hacc] at this
          simp only [onesFrom] at this
          rw [show arcRow (v : Int) [] = [] from rfl, List.append_nil] at this
          refine ev_k ?_
          simp only [spec_l08Arcs.l1]
          rw [w64 (a := (v : Int) + 1) (by omega) (by omega)]
          exact ev_neg (by omega) this
        | succ e ihe =>
          intro w acc w1 he hal hacc
          have hh := d_has n l (v : Int) (w : Int) (by omega) (by omega) (by omega) (by omega)
          have htb : tb (rd l (v : Int)) (w : Int) = (rd l (v : Int)).toNat.testBit w := by rw [tb_toNat hr.1 (by omega), Int.toNat_natCast]
          refine ev_k ?_
          simp only [spec_l08Arcs.l1, hh, Option.bind_some]
          rw [w64 (a := (w : Int) + 1) (by omega) (by omega)]
          refine ev_pos (by omega) ?_
          by_cases z : tb (rd l (v : Int)) (w : Int) = true
          · have := ihe (w + 1) (acc ++ [[(v : Int), (w : Int)]]) (by omega) (by omega) (by simp; omega) (by
              rw [← hacc]
              simp only [onesFrom]
              rw [if_pos (by rw [← htb]; exact z)]
              rw [show (w : Int) :: onesFrom (rd l (v : Int)).toNat e (w + 1) = [(w : Int)] ++ onesFrom (rd l (v : Int)).toNat e (w + 1) from rfl, arcRow_app, show arcRow (v : Int) [(w : Int)] = [[(v : Int), (w : Int)]] from rfl, List.append_assoc])
            exact ev_pos z (ev_pos (by omega) this)
          · have := ihe (w + 1) acc (by omega) (by omega) (by omega) (by
              rw [← hacc]
              simp only [onesFrom]
              rw [if_neg (by rw [← htb]; exact z)])
            exact ev_neg z this
      have := inner n.toNat 0 (arcsTo l v) (by omega) (by omega) (by omega) (by simp only [arcsTo]; rw [hto])
      refine ev_k ?_
      simp only [spec_l08Arcs.l0]
      exact ev_pos (by omega) this
  unfold spec_l08Arcs.f
  exact loop n.toNat 0 (by omega) (by omega)
end Go.Proofs.YtmofdldplbplbaaDoor.Q
namespace Go.Proofs.YtmofdldplbplbaaDoor.Q
open Go Go.RowKit Go.Proofs.YtmofdldplbplbaaDoor.P Go.Proofs.YtmofdldplbplbaaDoorW.PrintWords Go.Proofs.YtmofdldplbplbaaDoorW.PrintMore
theorem i_reversed {n : Int} {l : List Int} (h : rows n l) : ∃ r, Mx n r (fun v w => tb (rd l w) v = true) ∧ Ev (fun k => impl_Digraph_reversed.f k n l) (n, r) := by
  obtain ⟨r, hr, hx⟩ := i_directed n (by have := h.1; omega) h.2.1 (impl_Digraph_reversed.is l) (fun v w => tb (rd l w) v = true) fun v w v0 v1 w0 w1 => by
    refine ⟨_, ?_, Iff.rfl⟩
    unfold impl_Digraph_reversed.is
    rw [if_pos w0, if_pos (by have := h.2.2.1; omega), if_pos v0, bit_is v0 (by have := h.2.1; omega)]
  refine ⟨r, hr, ?_⟩
  unfold impl_Digraph_reversed.f
  exact Ev.bind hx (Ev.now _)
end Go.Proofs.YtmofdldplbplbaaDoor.Q
namespace Go.Proofs.YtmofdldplbplbaaDoor.Q
open Go Go.RowKit Go.Proofs.YtmofdldplbplbaaDoor.P Go.Proofs.YtmofdldplbplbaaDoorW.PrintWords Go.Proofs.YtmofdldplbplbaaDoorW.PrintMore
theorem rd1_mem {e : List (List Int)} {i : Int} (i0 : 0 ≤ i) (i1 : i < e.length) : rd_L2 e i ∈ e := by
  have : i.toNat < e.length := by omega
  simp only [rd_L2, List.getD_eq_getElem?_getD, List.getElem?_eq_getElem this, Option.getD_some]
  exact List.getElem_mem this
theorem arcs_two {n : Int} {l : List Int} (h : rows n l) {i : Int} (i0 : 0 ≤ i) (i1 : i < (arcsTo l n.toNat).length) : (rd_L2 (arcsTo l n.toNat) i).length = 2 := by
  obtain ⟨v, w, _, _, _, e⟩ := (arcsTo_mem h n.toNat (by have := h.1; omega) _).1 (rd1_mem i0 i1)
  rw [e]
  rfl
def meets (e : List (List Int)) (v w : Int) : Prop := rd (rd_L2 e v) 1 = rd (rd_L2 e w) 0
theorem s_line {e : List (List Int)} (h2 : ∀ i : Int, 0 ≤ i → i < e.length → (rd_L2 e i).length = 2) (n : Int) (hn : (e.length : Int) = n) (n2 : n ≤ 62) : ∃ r, Mx n r (meets e) ∧ Ev (fun k => spec_LineDigraph.l0 k e 0 n (List.replicate n.toNat 0)) (n, r, 0) := by
  have n0 : 0 ≤ n := by omega
  have outer : ∀ (d : Nat) (v : Int) (l : List Int), 0 ≤ v → v ≤ n → n - v = d → Mx n l (fun a b => a < v ∧ meets e a b) → ∃ r, Mx n r (meets e) ∧ Ev (fun k => spec_LineDigraph.l0 k e v n l) (n, r, 0) := by
    intro d
    induction d with
    | zero =>
      intro v l v0 v1 hd hm
      refine ⟨l, hm.imp fun a b a0 a1 _ _ => ⟨fun z => z.2, fun z => ⟨by omega, z⟩⟩, ev_k ?_⟩
      simp only [spec_LineDigraph.l0]
      exact ev_neg (by omega) (Ev.now _)
    | succ d ih =>
      intro v l v0 v1 hd hm
      have inner : ∀ (f : Nat) (w : Int) (l : List Int), 0 ≤ w → w ≤ n → n - w = f → Mx n l (fun a b => (a < v ∨ (a = v ∧ b < w)) ∧ meets e a b) → ∃ r, Mx n r (meets e) ∧ Ev (fun k => spec_LineDigraph.l1 k e v w n l) (n, r, 0) := by
        intro f
        induction f with
        | zero =>
          intro w l w0 w1 he hm
          obtain ⟨r, hr, hx⟩ := ih (v + 1) l (by omega) (by omega) (by omega) (hm.imp fun a b a0 a1 b0 b1 => and_congr ⟨fun _ => by omega, fun _ => by omega⟩ Iff.rfl)
          refine ⟨r, hr, ev_k ?_⟩
          simp only [spec_LineDigraph.l1]
          refine ev_neg (by omega) ?_
          rwa [w64 (a := v + 1) (by omega) (by omega)]
        | succ f ihf =>
          intro w l w0 w1 he hm
          have lv := h2 v v0 (by omega)
          have lw := h2 w w0 (by omega)
          by_cases hb : rd (rd_L2 e v) 1 = rd (rd_L2 e w) 0
          · obtain ⟨r, hr, hx⟩ := ihf (w + 1) _ (by omega) (by omega) (by omega) ((hm.or n2 v0 (by omega) w0 (by omega : w < n)).imp (Q := fun a b => (a < v ∨ (a = v ∧ b < w + 1)) ∧ meets e a b) fun a b a0 a1 b0 b1 => by
              constructor
              · rintro (⟨h, q⟩ | ⟨rfl, rfl⟩)
                · exact ⟨by omega, q⟩
                · exact ⟨by omega, hb⟩
              · rintro ⟨h, q⟩
                by_cases z : a = v ∧ b = w
                · exact .inr z
                · exact .inl ⟨by omega, q⟩)
            refine ⟨r, hr, ev_k ?_⟩
            simp only [spec_LineDigraph.l1]
            rw [wu64 w0 (by omega), w64 (a := w + 1) (by omega) (by omega)]
            exact ev_pos (by omega) (ev_pos v0 (ev_pos (by omega) (ev_pos (by omega) (ev_pos w0 (ev_pos (by omega) (ev_pos hb (ev_pos (by have := hm.1; omega) (ev_pos w0 hx))))))))
          · obtain ⟨r, hr, hx⟩ := ihf (w + 1) l (by omega) (by omega) (by omega) (hm.imp fun a b a0 a1 b0 b1 => by
              constructor
              · rintro ⟨h, q⟩
                exact ⟨by omega, q⟩
              · rintro ⟨h, q⟩
                by_cases z : a = v ∧ b = w
                · obtain ⟨rfl, rfl⟩ := z
                  exact absurd q hb
                · exact ⟨by omega, q⟩)
            refine ⟨r, hr, ev_k ?_⟩
            simp only [spec_LineDigraph.l1]
            rw [w64 (a := w + 1) (by omega) (by omega)]
            exact ev_pos (by omega) (ev_pos v0 (ev_pos (by omega) (ev_pos (by omega) (ev_pos w0 (ev_pos (by omega) (ev_neg hb hx))))))
      obtain ⟨r, hr, hx⟩ := inner n.toNat 0 l (by omega) (by omega) (by omega) (hm.imp fun a b a0 a1 b0 b1 => and_congr (by omega) Iff.rfl)
      refine ⟨r, hr, ev_k ?_⟩
      simp only [spec_LineDigraph.l0]
      exact ev_pos (by omega) hx
  exact outer n.toNat 0 _ (by omega) (by omega) (by omega) ((Mx.zero n n0).imp fun a b a0 a1 b0 b1 => ⟨False.elim, fun z => by omega⟩)
theorem i_line {e : List (List Int)} (h2 : ∀ i : Int, 0 ≤ i → i < e.length → (rd_L2 e i).length = 2) (n : Int) (hn : (e.length : Int) = n) (n2 : n ≤ 62) : ∃ r, Mx n r (meets e) ∧ Ev (fun k => impl_directed.f (impl_LineDigraph.is e) k n) (n, r) :=
  i_directed n (by omega) n2 (impl_LineDigraph.is e) (meets e) fun v w v0 v1 w0 w1 => by
    have lv := h2 v v0 (by omega)
    have lw := h2 w w0 (by omega)
    refine ⟨_, ?_, beq_iff_eq⟩
    unfold impl_LineDigraph.is
    rw [if_pos v0, if_pos (by omega), if_pos (by omega), if_pos w0, if_pos (by omega), if_pos (by omega)]
end Go.Proofs.YtmofdldplbplbaaDoor.Q
namespace Go.Proofs.YtmofdldplbplbaaDoor.Q
open Go Go.RowKit Go.Proofs.YtmofdldplbplbaaDoorW.PrintWords Go.Proofs.YtmofdldplbplbaaDoorW.PrintMore
def Wk (n : Int) (l : List Int) (s : Int) : Nat → Int → Prop
  | 0, u => u = s
  | k + 1, u => (0 ≤ u ∧ u < n) ∧ ∃ w, (0 ≤ w ∧ w < n) ∧ Wk n l s k w ∧ tb (rd l w) u = true
def Ds (n : Int) (l : List Int) (s : Int) (d : Nat) (u : Int) : Prop := Wk n l s d u ∧ ∀ j, j < d → ¬ Wk n l s j u
theorem Ds.uniq {n : Int} {l : List Int} {s u : Int} {d e : Nat} (h : Ds n l s d u) (g : Ds n l s e u) : d = e := by
  rcases Nat.lt_trichotomy d e with z | z | z
  · exact absurd h.1 (g.2 d z)
  · exact z
  · exact absurd g.1 (h.2 e z)
theorem Wk.range {n : Int} {l : List Int} {s : Int} (s0 : 0 ≤ s) (s1 : s < n) {k : Nat} {u : Int} (h : Wk n l s k u) : 0 ≤ u ∧ u < n := by
  cases k with
  | zero => cases h; exact ⟨s0, s1⟩
  | succ k => exact h.1
theorem Wk.least {n : Int} {l : List Int} {s u : Int} (k : Nat) (h : Wk n l s k u) : ∃ d, d ≤ k ∧ Ds n l s d u := by
  induction k using Nat.strongRecOn with
  | _ k ih =>
    by_cases hj : ∃ j, j < k ∧ Wk n l s j u
    · obtain ⟨j, hj, hw⟩ := hj
      obtain ⟨d, hd, h2⟩ := ih j hj hw
      exact ⟨d, by omega, h2⟩
    · exact ⟨k, Nat.le_refl _, h, fun j hj' hw => hj ⟨j, hj', hw⟩⟩
theorem Ds.ahead {n : Int} {l : List Int} {s u : Int} {d : Nat} (h : Ds n l s (d + 1) u) : ∃ w, (0 ≤ w ∧ w < n) ∧ Ds n l s d w ∧ tb (rd l w) u = true := by
  obtain ⟨⟨hu, w, hw, hk, ht⟩, hm⟩ := h
  refine ⟨w, hw, ⟨hk, fun j hj hwj => hm (j + 1) (by omega) ⟨hu, w, hw, hwj, ht⟩⟩, ht⟩
theorem Ds.stops {n : Int} {l : List Int} {s : Int} {d : Nat} (h : ∀ w, ¬ Ds n l s d w) : ∀ e, d ≤ e → ∀ u, ¬ Ds n l s e u := by
  intro e he
  induction e with
  | zero =>
    obtain rfl : d = 0 := by omega
    exact h
  | succ e ih =>
    by_cases z : d = e + 1
    · subst z
      exact h
    · intro u hu
      obtain ⟨w, _, hw, _⟩ := hu.ahead
      exact ih (by omega) w hw
theorem Ds.next {n : Int} {l : List Int} {s u : Int} {d : Nat} (hu : 0 ≤ u ∧ u < n) : Ds n l s (d + 1) u ↔ (∃ w, (0 ≤ w ∧ w < n) ∧ Ds n l s d w ∧ tb (rd l w) u = true) ∧ ¬ ∃ j, j ≤ d ∧ Wk n l s j u := by
  constructor
  · intro h
    exact ⟨h.ahead, fun ⟨j, hj, hw⟩ => h.2 j (by omega) hw⟩
  · rintro ⟨⟨w, hw, hd, ht⟩, hno⟩
    exact ⟨⟨hu, w, hw, hd.1, ht⟩, fun j hj hwj => hno ⟨j, by omega, hwj⟩⟩
def DistL (n : Int) (l : List Int) (s : Int) (ds : List Int) : Prop := (ds.length : Int) = n ∧ ∀ u, 0 ≤ u → u < n → (rd ds u = -1 ∧ ∀ j, ¬ Wk n l s j u) ∨ ∃ d : Nat, rd ds u = (d : Int) ∧ Ds n l s d u
theorem DistL.eq {n : Int} {l : List Int} {s : Int} {a b : List Int} (ha : DistL n l s a) (hb : DistL n l s b) : a = b := by
  refine rd_ext (by have := ha.1; have := hb.1; omega) fun v v0 v1 => ?_
  have v1 : v < n := by have := ha.1; omega
  rcases ha.2 v v0 v1 with ⟨e, h⟩ | ⟨d, e, h⟩ <;> rcases hb.2 v v0 v1 with ⟨f, g⟩ | ⟨c, f, g⟩
  · rw [e, f]
  · exact absurd g.1 (h c)
  · exact absurd h.1 (g d)
  · rw [e, f, h.uniq g]
theorem Ds.zero (n : Int) (l : List Int) (s u : Int) : Ds n l s 0 u ↔ u = s := ⟨fun h => h.1, fun h => ⟨h, fun j hj => by omega⟩⟩
structure Dist (n : Int) (l : List Int) (s : Int) (r : List Int) : Prop where
  len : (r.length : Int) = n
  src : ∀ u, 0 ≤ u → u < n → (rd r u = 0 ↔ u = s)
  next : ∀ (d u : Int), 0 ≤ d → 0 ≤ u → u < n → (rd r u = d + 1 ↔ (∃ w, (0 ≤ w ∧ w < n) ∧ rd r w = d ∧ tb (rd l w) u = true) ∧ ¬ (0 ≤ rd r u ∧ rd r u ≤ d))
  low : ∀ u, 0 ≤ u → u < n → -1 ≤ rd r u
  stops : ∀ d, 0 ≤ d → (∀ u, 0 ≤ u → u < n → rd r u ≠ d) → ∀ u, 0 ≤ u → u < n → rd r u < d
theorem DistL.ds {n : Int} {l : List Int} {s : Int} {r : List Int} (h : DistL n l s r) {u : Int} (u0 : 0 ≤ u) (u1 : u < n) (d : Nat) : rd r u = (d : Int) ↔ Ds n l s d u := by
  rcases h.2 u u0 u1 with ⟨e, g⟩ | ⟨c, e, g⟩
  · exact ⟨fun z => by omega, fun z => absurd z.1 (g d)⟩
  · constructor
    · intro z
      have : c = d := by omega
      exact this ▸ g
    · intro z
      rw [e, g.uniq z]
theorem DistL.met {n : Int} {l : List Int} {s : Int} {r : List Int} (h : DistL n l s r) {u : Int} (u0 : 0 ≤ u) (u1 : u < n) (d : Nat) : (0 ≤ rd r u ∧ rd r u ≤ (d : Int)) ↔ ∃ j, j ≤ d ∧ Wk n l s j u := by
  constructor
  · intro z
    have := (h.ds u0 u1 (rd r u).toNat).1 (by omega)
    exact ⟨(rd r u).toNat, by omega, this.1⟩
  · rintro ⟨j, hj, hw⟩
    obtain ⟨c, hc, hd⟩ := hw.least
    have := (h.ds u0 u1 c).2 hd
    omega
theorem DistL.dist {n : Int} {l : List Int} {s : Int} {r : List Int} (h : DistL n l s r) : Dist n l s r where
  len := h.1
  src := fun u u0 u1 => (h.ds u0 u1 0).trans (Ds.zero n l s u)
  next := fun d u d0 u0 u1 => by
    obtain ⟨d, rfl⟩ := Int.eq_ofNat_of_zero_le d0
    have a := h.ds u0 u1 (d + 1)
    rw [show ((d + 1 : Nat) : Int) = (d : Int) + 1 by omega] at a
    rw [a, Ds.next ⟨u0, u1⟩, h.met u0 u1]
    refine and_congr ⟨?_, ?_⟩ Iff.rfl
    · rintro ⟨w, hw, hd, ht⟩
      exact ⟨w, hw, (h.ds hw.1 hw.2 d).2 hd, ht⟩
    · rintro ⟨w, hw, hd, ht⟩
      exact ⟨w, hw, (h.ds hw.1 hw.2 d).1 hd, ht⟩
  low := fun u u0 u1 => by
    rcases h.2 u u0 u1 with ⟨e, _⟩ | ⟨c, e, _⟩ <;> omega
  stops := fun d d0 hd u u0 u1 => by
    obtain ⟨d, rfl⟩ := Int.eq_ofNat_of_zero_le d0
    rcases h.2 u u0 u1 with ⟨e, _⟩ | ⟨c, e, g⟩
    · omega
    · by_cases z : c < d
      · omega
      · refine absurd g ?_
        refine Ds.stops (d := d) (fun w hw => ?_) c (by omega) u
        have hr : 0 ≤ w ∧ w < n := by
          cases d with
          | zero =>
            have hs : w = s := hw.1
            by_cases hc : 0 ≤ s ∧ s < n
            · rw [hs]; exact hc
            · exfalso
              have key : ∀ (c : Nat) (u : Int), 0 ≤ u → u < n → ¬ Ds n l s c u := by
                intro c
                induction c with
                | zero => intro u u0 u1 z; have : u = s := z.1; exact hc ⟨by omega, by omega⟩
                | succ c ih => intro u u0 u1 z; obtain ⟨w, hw, hd, _⟩ := z.ahead; exact ih w hw.1 hw.2 hd
              exact key c u u0 u1 g
          | succ d => exact hw.1.1
        exact hd w hr.1 hr.2 ((h.ds hr.1 hr.2 d).2 hw)
open Classical in
theorem distL_exists (n : Int) (l : List Int) (s : Int) (n0 : 0 ≤ n) : ∃ r, DistL n l s r := by
  let f : Nat → Int := fun u => if h : ∃ d : Nat, Ds n l s d (u : Int) then (h.choose : Int) else -1
  refine ⟨(List.range n.toNat).map f, by simp; omega, fun u u0 u1 => ?_⟩
  have e : rd ((List.range n.toNat).map f) u = f u.toNat := by
    have : u.toNat < n.toNat := by omega
    simp [rd, List.getD_eq_getElem?_getD, this]
  rw [e]
  have hu : ((u.toNat : Nat) : Int) = u := Int.toNat_of_nonneg u0
  show _ ∨ _
  by_cases h : ∃ d : Nat, Ds n l s d ((u.toNat : Nat) : Int)
  · refine .inr ⟨h.choose, dif_pos h, ?_⟩
    have go : ∀ (c : Nat) (z : Int), z = u → Ds n l s c z → Ds n l s c u := fun c z e h => e ▸ h
    exact go _ _ hu h.choose_spec
  · refine .inl ⟨dif_neg h, fun j hj => h ?_⟩
    obtain ⟨d, _, hd⟩ := hj.least
    exact ⟨d, by rwa [hu]⟩
theorem length_of_all (K : Nat) : ∀ xs : List Nat, (∀ d, d < K → d ∈ xs) → K ≤ xs.length := by
  induction K with
  | zero => intro xs _; omega
  | succ K ih =>
    intro xs h
    have hm := h K (by omega)
    have := ih (xs.erase K) fun d hd => (List.mem_erase_of_ne (by omega)).2 (h d (by omega))
    have := List.length_erase_of_mem hm
    have := List.length_pos_of_mem hm
    omega
theorem Dist.level {n : Int} {l : List Int} {s : Int} {r : List Int} (h : Dist n l s r) (D : Nat) : ∀ u, 0 ≤ u → u < n → rd r u = (D : Int) → ∀ d, d ≤ D → ∃ w, (0 ≤ w ∧ w < n) ∧ rd r w = (d : Int) := by
  induction D with
  | zero => intro u u0 u1 hu d hd; exact ⟨u, ⟨u0, u1⟩, by rw [hu]; omega⟩
  | succ D ih =>
    intro u u0 u1 hu d hd
    by_cases e : d = D + 1
    · exact ⟨u, ⟨u0, u1⟩, by rw [hu, e]⟩
    · obtain ⟨⟨w, hw, hd', _⟩, _⟩ := (h.next D u (by omega) u0 u1).1 (by rw [hu]; omega)
      exact ih w hw.1 hw.2 hd' d (by omega)
theorem Dist.small {n : Int} {l : List Int} {s : Int} {r : List Int} (h : Dist n l s r) : ∀ u, 0 ≤ u → u < n → rd r u < n := by
  intro u u0 u1
  by_cases z : rd r u < 0
  · omega
  · have lv := h.level (rd r u).toNat u u0 u1 (by omega)
    have := length_of_all ((rd r u).toNat + 1) (r.map Int.toNat) fun d hd => by
      obtain ⟨w, hw, e⟩ := lv d (by omega)
      have hl := h.len
      have hwl : w.toNat < r.length := by omega
      have e2 : rd r w = r[w.toNat] := by simp [rd, List.getD_eq_getElem?_getD, List.getElem?_eq_getElem hwl]
      exact List.mem_map.2 ⟨r[w.toNat], List.getElem_mem _, by rw [← e2, e]; omega⟩
    rw [List.length_map] at this
    have := h.len
    omega
end Go.Proofs.YtmofdldplbplbaaDoor.Q
namespace Go.Proofs.YtmofdldplbplbaaDoor.Q
open Go Go.RowKit Go.Proofs.YtmofdldplbplbaaDoorW.PrintWords Go.Proofs.YtmofdldplbplbaaDoorW.PrintMore
theorem rd_mem {q : List Int} {i : Int} (i0 : 0 ≤ i) (i1 : i < q.length) : rd q i ∈ q := by
  have hu : i.toNat < q.length := by omega
  have : rd q i = q[i.toNat] := by simp [rd, List.getD_eq_getElem?_getD, List.getElem?_eq_getElem hu]
  rw [this]
  exact List.getElem_mem _
theorem mem_rd {q : List Int} {u : Int} (h : u ∈ q) : ∃ i : Int, (0 ≤ i ∧ i < q.length) ∧ rd q i = u := by
  obtain ⟨i, hi, rfl⟩ := List.getElem_of_mem h
  exact ⟨i, by omega, by simp [rd, List.getD_eq_getElem?_getD, List.getElem?_eq_getElem hi]⟩
structure QI (n : Int) (l : List Int) (s : Int) (r ds q : List Int) (i : Int) : Prop where
  len : (ds.length : Int) = n
  at0 : 0 ≤ i ∧ i ≤ q.length
  val : ∀ u, 0 ≤ u → u < n → rd ds u = -1 ∨ (rd ds u = rd r u ∧ 0 ≤ rd r u)
  mem : ∀ u, u ∈ q ↔ (0 ≤ u ∧ u < n) ∧ 0 ≤ rd ds u
  mono : ∀ a b : Int, 0 ≤ a → a ≤ b → b < q.length → rd r (rd q a) ≤ rd r (rd q b)
  top : i < q.length → ∀ b : Int, 0 ≤ b → b < q.length → rd r (rd q b) ≤ rd r (rd q i) + 1
  clos : ∀ a : Int, 0 ≤ a → a < i → ∀ u, 0 ≤ u → u < n → tb (rd l (rd q a)) u = true → 0 ≤ rd ds u
  met : i < q.length → ∀ u, 0 ≤ u → u < n → 0 ≤ rd r u → rd r u ≤ rd r (rd q i) → 0 ≤ rd ds u
  cnt : ds.count (-1) + q.length = n
  src : s ∈ q
section
variable {n : Int} {l : List Int} {s : Int} {r : List Int} (hr : Dist n l s r)
theorem QI.head {ds q : List Int} {i : Int} (h : QI n l s r ds q i) (hi : i < q.length) : (0 ≤ rd q i ∧ rd q i < n) ∧ rd ds (rd q i) = rd r (rd q i) ∧ 0 ≤ rd r (rd q i) := by
  obtain ⟨hw, h0⟩ := (h.mem (rd q i)).1 (rd_mem h.at0.1 hi)
  rcases h.val _ hw.1 hw.2 with e | e
  · omega
  · exact ⟨hw, e.1, e.2⟩
include hr
theorem QI.step {ds q : List Int} {i : Int} (h : QI n l s r ds q i) (hi : i < q.length) (hp : ∀ u, 0 ≤ u → u < n → tb (rd l (rd q i)) u = true → 0 ≤ rd ds u) : QI n l s r ds q (i + 1) := by
  obtain ⟨hw, hd, h0⟩ := h.head hi
  have i0 := h.at0.1
  have hcl : ∀ a : Int, 0 ≤ a → a < i + 1 → ∀ u, 0 ≤ u → u < n → tb (rd l (rd q a)) u = true → 0 ≤ rd ds u := fun a a0 a1 u u0 u1 tu => by
    by_cases e : a = i
    · subst e
      exact hp u u0 u1 tu
    · exact h.clos a a0 (by omega) u u0 u1 tu
  refine ⟨h.len, by omega, h.val, h.mem, h.mono, fun hi2 b b0 b1 => ?_, hcl, fun hi2 u u0 u1 z y => ?_, h.cnt, h.src⟩
  · have a := h.mono i (i + 1) i0 (by omega) hi2
    have c := h.top hi b b0 b1
    omega
  · have a := h.mono i (i + 1) i0 (by omega) hi2
    have c := h.top hi (i + 1) (by omega) hi2
    by_cases e : rd r u ≤ rd r (rd q i)
    · exact h.met hi u u0 u1 z e
    · obtain ⟨⟨w, hw, hwd, ht⟩, _⟩ := (hr.next (rd r (rd q i)) u h0 u0 u1).1 (by omega)
      have hwq : w ∈ q := (h.mem w).2 ⟨hw, h.met hi w hw.1 hw.2 (by omega) (by omega)⟩
      obtain ⟨a, ha, hae⟩ := mem_rd hwq
      have : a < i + 1 := by
        by_cases z2 : a < i + 1
        · exact z2
        · have := h.mono (i + 1) a (by omega) (by omega) ha.2
          rw [hae] at this
          omega
      rw [← hae] at ht
      exact hcl a ha.1 this u u0 u1 ht
theorem QI.done {ds q : List Int} {i : Int} (h : QI n l s r ds q i) (hi : ¬ i < q.length) : ds = r := by
  have hall : ∀ (d : Nat) (u : Int), 0 ≤ u → u < n → rd r u = (d : Int) → 0 ≤ rd ds u := by
    intro d
    induction d with
    | zero =>
      intro u u0 u1 hu
      have := (hr.src u u0 u1).1 hu
      subst this
      exact ((h.mem _).1 h.src).2
    | succ d ih =>
      intro u u0 u1 hu
      obtain ⟨⟨w, hw, hwd, ht⟩, _⟩ := (hr.next d u (by omega) u0 u1).1 (by omega)
      obtain ⟨a, ha, hae⟩ := mem_rd ((h.mem w).2 ⟨hw, ih w hw.1 hw.2 hwd⟩)
      rw [← hae] at ht
      exact h.clos a ha.1 (by omega) u u0 u1 ht
  refine rd_ext (by have := h.len; have := hr.len; omega) fun u u0 u1 => ?_
  have u1 : u < n := by have := h.len; omega
  have lw := hr.low u u0 u1
  rcases h.val u u0 u1 with e | e
  · by_cases z : rd r u < 0
    · omega
    · have := hall (rd r u).toNat u u0 u1 (by omega)
      omega
  · exact e.1
end
end Go.Proofs.YtmofdldplbplbaaDoor.Q
namespace Go.Proofs.YtmofdldplbplbaaDoor.Q
open Go Go.RowKit Go.Proofs.YtmofdldplbplbaaDoor.P Go.Proofs.YtmofdldplbplbaaDoorW.PrintWords Go.Proofs.YtmofdldplbplbaaDoorW.PrintMore
theorem r_index (l : List Int) (hl : l.length ≤ 1152921504606846976) (x : Int) (d : Nat) : ∀ i : Int, 0 ≤ i → i ≤ l.length → l.length - i = d → ∃ r, Ev (fun k => slices_Index_int64_int64.l0 k l x l.length i) r ∧ (0 ≤ r ↔ ∃ j : Int, i ≤ j ∧ j < l.length ∧ rd l j = x) := by
  induction d with
  | zero =>
    intro i i0 i1 hd
    refine ⟨-1, ev_k ?_, fun z => by omega, fun ⟨j, a, b, _⟩ => by omega⟩
    simp only [slices_Index_int64_int64.l0]
    exact ev_neg (by omega) (Ev.now _)
  | succ d ih =>
    intro i i0 i1 hd
    by_cases h : x = rd l i
    · refine ⟨i, ev_k ?_, fun _ => ⟨i, by omega, by omega, h.symm⟩, fun _ => i0⟩
      simp only [slices_Index_int64_int64.l0]
      exact ev_pos (by omega) (ev_pos i0 (ev_pos (by omega) (ev_pos h (Ev.now _))))
    · obtain ⟨r, hr, e⟩ := ih (i + 1) (by omega) (by omega) (by omega)
      refine ⟨r, ev_k ?_, e.trans ⟨fun ⟨j, a, b, c⟩ => ⟨j, by omega, b, c⟩, fun ⟨j, a, b, c⟩ => ⟨j, by
        by_cases z : j = i
        · rw [z] at c; exact absurd c.symm h
        · omega, b, c⟩⟩⟩
      simp only [slices_Index_int64_int64.l0]
      rw [w64 (a := i + 1) (by omega) (by omega)]
      exact ev_pos (by omega) (ev_pos i0 (ev_pos (by omega) (ev_neg h hr)))
theorem r_contains (l : List Int) (hl : l.length ≤ 1152921504606846976) (x : Int) : ∃ b : Bool, Ev (fun k => slices_Contains_int64_int64.f k l x) b ∧ (b = true ↔ ∃ j : Int, 0 ≤ j ∧ j < l.length ∧ rd l j = x) := by
  obtain ⟨r, hr, e⟩ := r_index l hl x l.length 0 (by omega) (by omega) (by omega)
  refine ⟨decide (r ≥ 0), ?_, by rw [decide_eq_true_iff]; exact e⟩
  unfold slices_Contains_int64_int64.f slices_Index_int64_int64.f
  exact Ev.bind hr (Ev.now _)
end Go.Proofs.YtmofdldplbplbaaDoor.Q
namespace Go.Proofs.YtmofdldplbplbaaDoor.Q
open Go Go.RowKit Go.Proofs.YtmofdldplbplbaaDoorW.PrintWords Go.Proofs.YtmofdldplbplbaaDoorW.PrintMore
open Classical in
noncomputable def dist (n : Int) (l : List Int) (s : Int) : List Int := if h : 0 ≤ n then (distL_exists n l s h).choose else []
theorem distL (n : Int) (l : List Int) (s : Int) (n0 : 0 ≤ n) : DistL n l s (dist n l s) := by
  unfold dist
  rw [dif_pos n0]
  exact (distL_exists n l s n0).choose_spec
theorem dist_of (n : Int) (l : List Int) (s : Int) (n0 : 0 ≤ n) : Dist n l s (dist n l s) := (distL n l s n0).dist
end Go.Proofs.YtmofdldplbplbaaDoor.Q
namespace Go.Proofs.YtmofdldplbplbaaDoor.Q
open Go Go.RowKit Go.Proofs.YtmofdldplbplbaaDoorW.PrintWords Go.Proofs.YtmofdldplbplbaaDoorW.PrintMore
def Rw (n x : Int) : Prop := 0 ≤ x ∧ x < 2 ^ n.toNat
theorem Rw.nat {n x : Int} (n2 : n ≤ 62) (h : Rw n x) : ∃ y : Nat, x = (y : Int) ∧ y < 2 ^ n.toNat ∧ y < 2 ^ 62 := by
  obtain ⟨h0, h1⟩ := h
  have e : ((2 : Int) ^ n.toNat) = ((2 ^ n.toNat : Nat) : Int) := by simp
  have p : 2 ^ n.toNat ≤ 2 ^ 62 := Nat.pow_le_pow_right (by decide) (by omega)
  rw [e] at h1
  exact ⟨x.toNat, by omega, by omega, by omega⟩
theorem Rw.of {n : Int} {y : Nat} (h : y < 2 ^ n.toNat) : Rw n (y : Int) := by
  have e : ((2 : Int) ^ n.toNat) = ((2 ^ n.toNat : Nat) : Int) := by simp
  exact ⟨by omega, by rw [e]; omega⟩
theorem or_rw {n x y : Int} (n2 : n ≤ 62) (hx : Rw n x) (hy : Rw n y) : Rw n (bits .or .i64 x y) ∧ ∀ w, 0 ≤ w → (tb (bits .or .i64 x y) w = true ↔ tb x w = true ∨ tb y w = true) := by
  obtain ⟨a, rfl, a1, a2⟩ := hx.nat n2
  obtain ⟨b, rfl, b1, b2⟩ := hy.nat n2
  rw [or_nat a b (by omega) (by omega)]
  refine ⟨Rw.of (Nat.or_lt_two_pow a1 b1), fun w w0 => ?_⟩
  obtain ⟨w, rfl⟩ := Int.eq_ofNat_of_zero_le w0
  rw [tb_nat, tb_nat, tb_nat, Nat.testBit_or]
  simp
theorem andNot_rw {n x y : Int} (n2 : n ≤ 62) (hx : Rw n x) (hy : Rw n y) : Rw n (bits .andNot .i64 x y) ∧ ∀ w, 0 ≤ w → (tb (bits .andNot .i64 x y) w = true ↔ tb x w = true ∧ ¬ tb y w = true) := by
  obtain ⟨a, rfl, a1, a2⟩ := hx.nat n2
  obtain ⟨b, rfl, b1, b2⟩ := hy.nat n2
  obtain ⟨c, e, _, hc⟩ := andNot_nat a b (by omega) (by omega)
  rw [e]
  have c1 : c < 2 ^ n.toNat := by
    refine Nat.lt_pow_two_of_testBit _ fun i hi => ?_
    rw [hc, Nat.testBit_lt_two_pow (Nat.lt_of_lt_of_le a1 (Nat.pow_le_pow_right (by decide) hi))]
    rfl
  refine ⟨Rw.of c1, fun w w0 => ?_⟩
  obtain ⟨w, rfl⟩ := Int.eq_ofNat_of_zero_le w0
  rw [tb_nat, tb_nat, tb_nat, hc]
  simp
theorem one_rw {n j : Int} (n2 : n ≤ 62) (j0 : 0 ≤ j) (j1 : j < n) : Rw n (shl .i64 1 j) ∧ ∀ w, 0 ≤ w → (tb (shl .i64 1 j) w = true ↔ w = j) := by
  rw [shl_one j0 (by omega), show ((2 : Int) ^ j.toNat) = ((2 ^ j.toNat : Nat) : Int) by simp]
  refine ⟨Rw.of (Nat.pow_lt_pow_right (by decide) (by omega)), fun w w0 => ?_⟩
  obtain ⟨w, rfl⟩ := Int.eq_ofNat_of_zero_le w0
  rw [tb_nat, Nat.testBit_two_pow]
  simp
  omega
theorem zero_rw (n : Int) : Rw n 0 ∧ ∀ w, ¬ tb 0 w = true := by
  have p : (0 : Int) < 2 ^ n.toNat := Int.pow_pos (by decide)
  exact ⟨⟨by omega, p⟩, fun w => by simp [tb]⟩
theorem Rw.eq_zero {n x : Int} (n0 : 0 ≤ n) (hx : Rw n x) : x = 0 ↔ ∀ w, 0 ≤ w → w < n → ¬ tb x w = true := by
  constructor
  · rintro rfl w _ _
    exact (zero_rw n).2 w
  · intro h
    exact tb_ext hx.1 hx.2 (zero_rw n).1.1 (zero_rw n).1.2 n0 fun i i0 i1 => by
      have a := h i i0 i1
      have b := (zero_rw n).2 i
      simp at a b
      rw [a, b]
end Go.Proofs.YtmofdldplbplbaaDoor.Q
namespace Go.Proofs.YtmofdldplbplbaaDoor.Q
open Go Go.RowKit Go.Proofs.YtmofdldplbplbaaDoor.P Go.Proofs.YtmofdldplbplbaaDoorW.PrintWords Go.Proofs.YtmofdldplbplbaaDoorW.PrintMore
def Is (n x : Int) (P : Int → Prop) : Prop := Rw n x ∧ ∀ u, 0 ≤ u → u < n → (tb x u = true ↔ P u)
theorem Is.imp {n x : Int} {P Q : Int → Prop} (h : Is n x P) (e : ∀ u, 0 ≤ u → u < n → (P u ↔ Q u)) : Is n x Q := ⟨h.1, fun u u0 u1 => (h.2 u u0 u1).trans (e u u0 u1)⟩
theorem level_next {n : Int} {l : List Int} {s : Int} {r : List Int} (hr : Dist n l s r) {d S X : Int} (d0 : 0 ≤ d) (hX : Is n X fun u => ∃ w, (0 ≤ w ∧ w < n) ∧ rd r w = d ∧ tb (rd l w) u = true) (u : Int) (u0 : 0 ≤ u) (u1 : u < n) (hS : tb S u = true ↔ 0 ≤ rd r u ∧ rd r u ≤ d) : ((tb S u = true ∨ tb X u = true) ↔ 0 ≤ rd r u ∧ rd r u ≤ d + 1) ∧ ((tb X u = true ∧ ¬ tb S u = true) ↔ rd r u = d + 1) := by
  have a := hr.next d u d0 u0 u1
  rw [hS, hX.2 u u0 u1]
  constructor
  · constructor
    · rintro (z | z)
      · omega
      · by_cases q : 0 ≤ rd r u ∧ rd r u ≤ d
        · omega
        · have := a.2 ⟨z, q⟩
          omega
    · intro z
      by_cases q : 0 ≤ rd r u ∧ rd r u ≤ d
      · exact .inl q
      · exact .inr (a.1 (by omega)).1
  · exact a.symm
section
variable {n : Int} {l : List Int} (h : rows n l) {s : Int} (s0 : 0 ≤ s) (s1 : s < n) {r : List Int} (hr : Dist n l s r)
include h hr
theorem i_distances_l0 (M : Nat) (hM : ∀ u, 0 ≤ u → u < n → rd r u < (M : Int)) (e : Nat) : ∀ (d : Nat) (ds : List Int) (S L : Int), (M : Int) - d = e → (d : Int) ≤ 1000000 → (M : Int) ≤ 1000000 → (ds.length : Int) = n → (∀ u, 0 ≤ u → u < n → rd ds u = if 0 ≤ rd r u ∧ rd r u < d then rd r u else -1) → Is n S (fun u => 0 ≤ rd r u ∧ rd r u ≤ d) → Is n L (fun u => rd r u = d) → Ev (fun k => impl_Graph_distances.l0 k ds S L d n l) r := by
  have n2 := h.2.1
  have hl := h.2.2.1
  have n0 : 0 ≤ n := by have := h.1; omega
  have stop : ∀ (d : Nat) (ds : List Int) (S : Int), (ds.length : Int) = n → (∀ u, 0 ≤ u → u < n → rd ds u = if 0 ≤ rd r u ∧ rd r u < d then rd r u else -1) → (∀ u, 0 ≤ u → u < n → rd r u ≠ d) → Ev (fun k => impl_Graph_distances.l0 k ds S 0 d n l) r := by
    intro d ds S hlen hds hno
    have : ds = r := by
      refine rd_ext (by have := hr.len; omega) fun u u0 u1 => ?_
      have u1 : u < n := by omega
      rw [hds u u0 u1]
      have a := hr.stops d (by omega) hno u u0 u1
      have b := hr.low u u0 u1
      split <;> omega
    subst this
    refine ev_k ?_
    simp only [impl_Graph_distances.l0]
    exact ev_pos trivial (Ev.now _)
  induction e with
  | zero =>
    intro d ds S L he hd hM2 hlen hds hS hL
    have hno : ∀ u, 0 ≤ u → u < n → rd r u ≠ d := fun u u0 u1 => by have := hM u u0 u1; omega
    have : L = 0 := (hL.1.eq_zero n0).2 fun w w0 w1 z => hno w w0 w1 ((hL.2 w w0 w1).1 z)
    subst this
    exact stop d ds S hlen hds hno
  | succ e ih =>
    intro d ds S L he hd hM2 hlen hds hS hL
    by_cases hz : L = 0
    · subst hz
      exact stop d ds S hlen hds fun u u0 u1 z => (hL.1.eq_zero n0).1 rfl u u0 u1 ((hL.2 u u0 u1).2 z)
    · have hp := two_pow_le (n := n) n0 n2
      have inner : ∀ (ws pre ds : List Int) (X : Int), pre ++ ws = ones L → (ds.length : Int) = n → (∀ u, 0 ≤ u → u < n → rd ds u = if (0 ≤ rd r u ∧ rd r u < d) ∨ u ∈ pre then rd r u else -1) → Is n X (fun u => ∃ w, w ∈ pre ∧ tb (rd l w) u = true) → Ev (fun k => impl_Graph_distances.l1 k ds S d X (ones L) (ones L).length pre.length n l) r := by
        intro ws
        have ol := ones_length L
        have om := fun v => ones_mem n0 n2 hL.1.1 hL.1.2 v
        induction ws with
        | nil =>
          intro pre ds X hpre hlen hds hX
          rw [List.append_nil] at hpre
          subst hpre
          have hX2 : Is n X fun u => ∃ w, (0 ≤ w ∧ w < n) ∧ rd r w = d ∧ tb (rd l w) u = true := hX.imp fun u u0 u1 => by
            constructor
            · rintro ⟨w, hw, ht⟩
              obtain ⟨a, b, c⟩ := (om w).1 hw
              exact ⟨w, ⟨a, b⟩, (hL.2 w a b).1 c, ht⟩
            · rintro ⟨w, ⟨a, b⟩, c, ht⟩
              exact ⟨w, (om w).2 ⟨a, b, (hL.2 w a b).2 c⟩, ht⟩
          have o := or_rw n2 hS.1 hX.1
          have q := andNot_rw n2 hX.1 hS.1
          refine ev_k ?_
          simp only [impl_Graph_distances.l1]
          refine ev_neg (by omega) ?_
          rw [w64 (a := (d : Int) + 1) (by omega) (by omega)]
          refine ih (d + 1) ds _ _ (by omega) (by omega) hM2 hlen (fun u u0 u1 => ?_) ⟨o.1, fun u u0 u1 => ?_⟩ ⟨q.1, fun u u0 u1 => ?_⟩
          · rw [hds u u0 u1]
            have z : u ∈ ones L ↔ rd r u = d := (om u).trans ⟨fun z => (hL.2 u u0 u1).1 z.2.2, fun z => ⟨u0, u1, (hL.2 u u0 u1).2 z⟩⟩
            by_cases q : u ∈ ones L
            · have := z.1 q
              rw [if_pos (.inr q), if_pos (by omega)]
            · have q2 : rd r u ≠ d := fun e => q (z.2 e)
              by_cases p : 0 ≤ rd r u ∧ rd r u < d
              · rw [if_pos (.inl p), if_pos (by omega)]
              · rw [if_neg (by rintro (a | a); exact p a; exact q a), if_neg (by omega)]
          · rw [o.2 u u0]
            exact ((level_next hr (by omega) hX2 u u0 u1 (hS.2 u u0 u1)).1).trans (by omega)
          · rw [q.2 u u0]
            exact ((level_next hr (by omega) hX2 u u0 u1 (hS.2 u u0 u1)).2).trans (by omega)
        | cons w ws ihw =>
          intro pre ds X hpre hlen hds hX
          have hlt : pre.length < (ones L).length := by rw [← hpre]; simp
          have hw : rd (ones L) pre.length = w := by
            rw [← hpre]
            simp [rd, List.getD_eq_getElem?_getD]
          obtain ⟨w0, w1, wt⟩ := (om w).1 (by rw [← hpre]; simp)
          have hwd := (hL.2 w w0 w1).1 wt
          have o := or_rw n2 hX.1 (h.2.2.2 w w0 w1)
          refine ev_k ?_
          simp only [impl_Graph_distances.l1, hw]
          refine ev_pos (by omega) (ev_pos (by omega) (ev_pos (by omega) (ev_pos w0 (ev_pos (by omega) (ev_pos (by omega) ?_)))))
          rw [w64 (a := (pre.length : Int) + 1) (by omega) (by omega)]
          have := ihw (pre ++ [w]) (ds.set w.toNat d) (bits .or .i64 X (rd l w)) (by rw [← hpre]; simp) (by simpa using hlen) (fun u u0 u1 => ?_) ⟨o.1, fun u u0 u1 => ?_⟩
          · simpa using this
          · rw [rd_set _ w0 (by omega) u0]
            by_cases e : u = w
            · subst e
              rw [if_pos rfl, if_pos (.inr (by simp)), hwd]
            · rw [if_neg e, hds u u0 u1]
              simp [e]
          · rw [o.2 u u0, hX.2 u u0 u1]
            constructor
            · rintro (⟨x, hx, ht⟩ | ht)
              · exact ⟨x, by simp [hx], ht⟩
              · exact ⟨w, by simp, ht⟩
            · rintro ⟨x, hx, ht⟩
              rcases List.mem_append.1 hx with hx | hx
              · exact .inl ⟨x, hx, ht⟩
              · obtain rfl : x = w := by simpa using hx
                exact .inr ht
      refine ev_k ?_
      simp only [impl_Graph_distances.l0]
      refine ev_neg hz (Ev.bind (i_list hL.1.1 (by have := hL.1.2; omega)) ?_)
      have := inner (ones L) [] ds 0 (by simp) hlen (fun u u0 u1 => by rw [hds u u0 u1]; simp) ⟨(zero_rw n).1, fun u u0 u1 => ⟨fun z => absurd z ((zero_rw n).2 u), fun ⟨w, hw, _⟩ => by cases hw⟩⟩
      simpa using this
include s0 s1
theorem i_distances : Ev (fun k => impl_Graph_distances.f k n l s) r := by
  have n2 := h.2.1
  have n0 : 0 ≤ n := by have := h.1; omega
  have hb : ∀ u, 0 ≤ u → u < n → rd r u < 1000000 := fun u u0 u1 => by have := hr.small u u0 u1; omega
  obtain ⟨o1, o2⟩ := one_rw n2 s0 s1
  unfold impl_Graph_distances.f
  refine ev_bind0 (a := List.replicate n.toNat (-1)) ?_ (ev_pos s0 ?_)
  · unfold slices_Repeat_int64_int64.f
    rw [if_pos (show ([-1] : List Int).length = 1 from rfl), if_pos n0, if_pos (by omega)]
    rfl
  · refine i_distances_l0 h hr 1000000 hb 1000000 0 _ _ _ (by omega) (by omega) (by omega) (by simp; omega) (fun u u0 u1 => ?_) ⟨o1, fun u u0 u1 => ?_⟩ ⟨o1, fun u u0 u1 => ?_⟩
    · have : u.toNat < n.toNat := by omega
      rw [if_neg (by omega)]
      simp [rd, List.getD_eq_getElem?_getD, this]
    · rw [o2 u u0, ← hr.src u u0 u1]
      omega
    · rw [o2 u u0, ← hr.src u u0 u1]
      omega
end
end Go.Proofs.YtmofdldplbplbaaDoor.Q
namespace Go.Proofs.YtmofdldplbplbaaDoor.Q
open Go Go.RowKit Go.Proofs.YtmofdldplbplbaaDoor.P Go.Proofs.YtmofdldplbplbaaDoorW.PrintWords Go.Proofs.YtmofdldplbplbaaDoorW.PrintMore
def IsMax (r : List Int) (m : Int) : Prop := (∀ j : Int, 0 ≤ j → j < r.length → rd r j ≤ m) ∧ ∃ j : Int, 0 ≤ j ∧ j < r.length ∧ m = rd r j
theorem IsMax.uniq {r : List Int} {a b : Int} (ha : IsMax r a) (hb : IsMax r b) : a = b := by
  obtain ⟨a1, i, i0, i1, ia⟩ := ha
  obtain ⟨b1, j, j0, j1, jb⟩ := hb
  have := a1 j j0 j1
  have := b1 i i0 i1
  omega
open Classical in
noncomputable def top (r : List Int) : Int := if h : ∃ m, IsMax r m then h.choose else 0
theorem top_eq {r : List Int} {m : Int} (h : IsMax r m) : top r = m := by
  have hex : ∃ m, IsMax r m := ⟨m, h⟩
  unfold top
  rw [dif_pos hex]
  exact hex.choose_spec.uniq h
theorem r_max_l0 (l : List Int) (hl : l.length ≤ 1152921504606846976) (d : Nat) : ∀ (m i : Int), 0 ≤ i → i ≤ l.length → l.length - i = d → ∃ r, Ev (fun k => slices_Max_int64_int64.l0 k l m i) r ∧ m ≤ r ∧ (∀ j : Int, i ≤ j → j < l.length → rd l j ≤ r) ∧ (r = m ∨ ∃ j : Int, i ≤ j ∧ j < l.length ∧ r = rd l j) := by
  induction d with
  | zero =>
    intro m i i0 i1 hd
    refine ⟨m, ev_k ?_, by omega, fun j _ _ => by omega, .inl rfl⟩
    simp only [slices_Max_int64_int64.l0]
    exact ev_neg (by omega) (Ev.now _)
  | succ d ih =>
    intro m i i0 i1 hd
    obtain ⟨r, hr, r1, r2, r3⟩ := ih (mx m (rd l i)) (i + 1) (by omega) (by omega) (by omega)
    have e : m ≤ mx m (rd l i) ∧ rd l i ≤ mx m (rd l i) ∧ (mx m (rd l i) = m ∨ mx m (rd l i) = rd l i) := by
      unfold mx
      split <;> omega
    refine ⟨r, ev_k ?_, by omega, fun j j0 j1 => if h : j = i then by rw [h]; omega else r2 j (by omega) j1, ?_⟩
    · simp only [slices_Max_int64_int64.l0]
      rw [w64 (a := i + 1) (by omega) (by omega)]
      exact ev_pos (by omega) (ev_pos i0 hr)
    · rcases r3 with h | ⟨j, j0, j1, h⟩
      · rcases e.2.2 with e | e
        · exact .inl (h.trans e)
        · exact .inr ⟨i, by omega, by omega, h.trans e⟩
      · exact .inr ⟨j, by omega, j1, h⟩
theorem r_max (l : List Int) (hl : l.length ≤ 1152921504606846976) (h0 : 0 < l.length) : ∃ r, Ev (fun k => slices_Max_int64_int64.f k l) r ∧ IsMax l r := by
  obtain ⟨r, hr, r1, r2, r3⟩ := r_max_l0 l hl (l.length - 1) (rd l 0) 1 (by omega) (by omega) (by omega)
  refine ⟨r, ?_, fun j j0 j1 => if h : j = 0 then by rw [h]; exact r1 else r2 j (by omega) j1, ?_⟩
  · unfold slices_Max_int64_int64.f
    exact ev_neg (by omega) (ev_pos (by omega) hr)
  · rcases r3 with h | ⟨j, j0, j1, h⟩
    · exact ⟨0, by omega, by omega, h⟩
    · exact ⟨j, by omega, j1, h⟩
end Go.Proofs.YtmofdldplbplbaaDoor.Q
namespace Go.Proofs.YtmofdldplbplbaaDoor.Q
open Go Go.RowKit Go.Proofs.YtmofdldplbplbaaDoor.P Go.Proofs.YtmofdldplbplbaaDoorW.PrintWords Go.Proofs.YtmofdldplbplbaaDoorW.PrintMore
def Cut (n : Int) (r : List Int) : Prop := ∃ u, (0 ≤ u ∧ u < n) ∧ rd r u = -1
open Classical in
noncomputable def reach (n : Int) (l : List Int) : Nat → Int → Int → Int
  | 0, _, acc => acc
  | d + 1, v, acc => if Cut n (dist n l v) then -1 else reach n l d (v + 1) (mx acc (top (dist n l v)))
section
variable {n : Int} {l : List Int} (h : rows n l)
include h
theorem i_diameter : Ev (fun k => impl_Digraph_diameter.f k n l) (reach n l n.toNat 0 0) := by
  have n1 := h.1
  have n2 := h.2.1
  have loop : ∀ (d : Nat) (v acc : Int), 0 ≤ v → v ≤ n → n - v = d → Ev (fun k => impl_Digraph_diameter.l0 k acc n v n l) (reach n l d v acc) := by
    intro d
    induction d with
    | zero =>
      intro v acc v0 v1 hd
      refine ev_k ?_
      simp only [impl_Digraph_diameter.l0]
      exact ev_neg (by omega) (Ev.now _)
    | succ d ih =>
      intro v acc v0 v1 hd
      have hdist := dist_of n l v (by omega)
      have hlen := hdist.len
      obtain ⟨b, hb, be⟩ := r_contains (dist n l v) (by omega) (-1)
      obtain ⟨m, hm, hmax⟩ := r_max (dist n l v) (by omega) (by omega)
      have hc : b = true ↔ Cut n (dist n l v) := be.trans ⟨fun ⟨j, a, c, e⟩ => ⟨j, by omega, e⟩, fun ⟨u, a, e⟩ => ⟨u, by omega, by omega, e⟩⟩
      refine ev_k ?_
      simp only [impl_Digraph_diameter.l0, reach]
      refine ev_pos (by omega) (Ev.bind (i_distances h v0 (by omega) hdist) (Ev.bind hb ?_))
      by_cases z : b = true
      · rw [if_pos (hc.1 z)]
        exact ev_pos z (Ev.now _)
      · rw [if_neg (fun y => z (hc.2 y)), top_eq hmax]
        refine ev_neg z (Ev.bind hm ?_)
        rw [w64 (a := v + 1) (by omega) (by omega)]
        exact ih (v + 1) _ (by omega) (by omega) (by omega)
  unfold impl_Digraph_diameter.f
  exact loop n.toNat 0 0 (by omega) (by omega) (by omega)
end
end Go.Proofs.YtmofdldplbplbaaDoor.Q
namespace Go.Proofs.YtmofdldplbplbaaDoor.Q
open Go Go.RowKit Go.Proofs.YtmofdldplbplbaaDoor.P Go.Proofs.YtmofdldplbplbaaDoorW.PrintWords Go.Proofs.YtmofdldplbplbaaDoorW.PrintMore
theorem i_size (x : Nat) (hx : x < 2 ^ 62) : impl_size.f (x : Int) = some ((pc 64 x : Nat) : Int) := by
  unfold impl_size.f bits_OnesCount64.f
  rw [wu64 (a := (x : Int)) (by omega) (by omega)]
  rw [(mA x (by omega)).1, (mB x (by omega)).1, mC]
  have b := sC_bound x
  have s := swar x
  have p := pc_le 64 x
  have e1 : ((sC 8 x : Nat) : Int) + ((sC 8 x : Nat) : Int) / 256 = ((sC 8 x + sC 8 x / 256 : Nat) : Int) := by omega
  rw [e1, wu64 (a := ((sC 8 x + sC 8 x / 256 : Nat) : Int)) (by omega) (by omega)]
  generalize sC 8 x + sC 8 x / 256 = y at *
  have e2 : ((y : Nat) : Int) + ((y : Nat) : Int) / 65536 = ((y + y / 65536 : Nat) : Int) := by omega
  rw [e2, wu64 (a := ((y + y / 65536 : Nat) : Int)) (by omega) (by omega)]
  generalize y + y / 65536 = z at *
  have e3 : ((z : Nat) : Int) + ((z : Nat) : Int) / 4294967296 = ((z + z / 4294967296 : Nat) : Int) := by omega
  rw [e3, wu64 (a := ((z + z / 4294967296 : Nat) : Int)) (by omega) (by omega), w64 (by omega) (by omega)]
  generalize z + z / 4294967296 = t at *
  have e4 : bits .and .i64 ((t : Nat) : Int) 127 = ((t % 128 : Nat) : Int) := by
    have := and_nat t 127 (by omega) (by decide)
    rw [show ((127 : Nat) : Int) = 127 from rfl] at this
    rw [this]
    have := Nat.and_two_pow_sub_one_eq_mod t 7
    simpa using congrArg (fun n : Nat => (n : Int)) this
  rw [e4, s]
  rfl
def deg (l : List Int) (v : Int) : Int := (pc 64 (rd l v).toNat : Nat)
end Go.Proofs.YtmofdldplbplbaaDoor.Q
namespace Go.Proofs.YtmofdldplbplbaaDoor.Q
open Go Go.RowKit Go.Proofs.YtmofdldplbplbaaDoor.P Go.Proofs.YtmofdldplbplbaaDoorW.PrintWords Go.Proofs.YtmofdldplbplbaaDoorW.PrintMore
def regD (n : Int) (l r : List Int) : Prop := ∀ v, 0 ≤ v → v < n → deg l v = deg l 0 ∧ deg r v = deg l 0
theorem deg_i {n : Int} {l : List Int} (h : rows n l) {v : Int} (v0 : 0 ≤ v) (v1 : v < n) : impl_size.f (rd l v) = some (deg l v) := by
  obtain ⟨x, e, _, hx⟩ := h.nat v0 v1
  unfold deg
  rw [e, Int.toNat_natCast]
  exact i_size x hx
theorem i_degD {n : Int} {l : List Int} (h : rows n l) : ∃ g r, Mx n r (fun v w => tb (rd l w) v = true) ∧ ((regD n l r ∧ g = deg l 0) ∨ (¬ regD n l r ∧ g = -1)) ∧ Ev (fun k => impl_Digraph_degree.f k n l) g := by
  have n1 := h.1
  have n2 := h.2.1
  have hl := h.2.2.1
  obtain ⟨r, hr, hi⟩ := i_reversed h
  have hrr := hr.rows n1 n2
  have hrl := hr.1
  have hlen : ((l ++ r).length : Int) = 2 * n := by rw [List.length_append]; omega
  have at1 : ∀ v, 0 ≤ v → v < n → rd (l ++ r) v = rd l v := fun v v0 v1 => by
    have : v.toNat < l.length := by omega
    simp only [rd, List.getD_eq_getElem?_getD, List.getElem?_append_left this]
  have at2 : ∀ v, 0 ≤ v → v < n → rd (l ++ r) (n + v) = rd r v := fun v v0 v1 => by
    simp only [rd, List.getD_eq_getElem?_getD]
    rw [List.getElem?_append_right (by omega), show (n + v).toNat - l.length = v.toNat by omega]
  have il : ∀ (d : Nat) (i : Int), 0 ≤ i → i ≤ 2 * n → 2 * n - i = d → (∀ w, 0 ≤ w → w < n → (w < i → deg l w = deg l 0) ∧ (n + w < i → deg r w = deg l 0)) → ∃ g, ((regD n l r ∧ g = deg l 0) ∨ (¬ regD n l r ∧ g = -1)) ∧ Ev (fun k => impl_Digraph_degree.l0 k (deg l 0) (l ++ r) ((l ++ r).length : Int) i) g := by
    intro d
    induction d with
    | zero =>
      intro i i0 i1 hd hb
      refine ⟨deg l 0, .inl ⟨fun w w0 w1 => ⟨(hb w w0 w1).1 (by omega), (hb w w0 w1).2 (by omega)⟩, rfl⟩, ev_k ?_⟩
      simp only [impl_Digraph_degree.l0]
      exact ev_neg (by omega) (Ev.now _)
    | succ d ih =>
      intro i i0 i1 hd hb
      have hsz : ∃ g, impl_size.f (rd (l ++ r) i) = some g ∧ ((i < n ∧ g = deg l i) ∨ (n ≤ i ∧ g = deg r (i - n))) := by
        by_cases y : i < n
        · exact ⟨_, by rw [at1 i i0 y]; exact deg_i h i0 y, .inl ⟨y, rfl⟩⟩
        · refine ⟨_, ?_, .inr ⟨by omega, rfl⟩⟩
          have := at2 (i - n) (by omega) (by omega)
          rw [show n + (i - n) = i by omega] at this
          rw [this]
          exact deg_i hrr (by omega) (by omega)
      obtain ⟨g0, hg0, hcase⟩ := hsz
      by_cases z : g0 = deg l 0
      · obtain ⟨g, hg, hE⟩ := ih (i + 1) (by omega) (by omega) (by omega) (fun w w0 w1 => by
          have hb' := hb w w0 w1
          constructor
          · intro q
            by_cases y : w = i
            · rcases hcase with ⟨c1, c2⟩ | ⟨c1, _⟩
              · rw [y, ← c2, z]
              · omega
            · exact hb'.1 (by omega)
          · intro q
            by_cases y : n + w = i
            · rcases hcase with ⟨c1, _⟩ | ⟨c1, c2⟩
              · omega
              · rw [show w = i - n by omega, ← c2, z]
            · exact hb'.2 (by omega))
        refine ⟨g, hg, ev_k ?_⟩
        simp only [impl_Digraph_degree.l0]
        rw [hg0, w64 (a := i + 1) (by omega) (by omega)]
        exact ev_pos (by omega) (ev_pos i0 (ev_pos (by omega) (ev_pos z hE)))
      · refine ⟨-1, .inr ⟨fun y => z ?_, rfl⟩, ev_k ?_⟩
        · rcases hcase with ⟨c1, c2⟩ | ⟨c1, c2⟩
          · rw [c2]; exact (y i i0 c1).1
          · rw [c2]; exact (y (i - n) (by omega) (by omega)).2
        · simp only [impl_Digraph_degree.l0]
          rw [hg0]
          exact ev_pos (by omega) (ev_pos i0 (ev_pos (by omega) (ev_neg z (Ev.now _))))
  obtain ⟨g, hg, hE⟩ := il (2 * n).toNat 0 (by omega) (by omega) (by omega) (fun w w0 w1 => ⟨fun _ => by omega, fun _ => by omega⟩)
  refine ⟨g, r, hr, hg, ?_⟩
  unfold impl_Digraph_degree.f
  have hc : slices_Concat_int64_int64.f [l, r] = some (l ++ r) := by
    unfold slices_Concat_int64_int64.f
    rw [show [l, r].flatten = l ++ r by simp, if_pos (by omega), if_pos (by omega), if_pos (by simp)]
  exact ev_pos (by omega) (ev_bind0 (deg_i h (by omega) (by omega)) (Ev.bind hi (ev_bind0 hc hE)))
end Go.Proofs.YtmofdldplbplbaaDoor.Q
namespace Go.Proofs.YtmofdldplbplbaaDoor.Q
open Go Go.RowKit Go.Proofs.YtmofdldplbplbaaDoor.P Go.Proofs.YtmofdldplbplbaaDoorW.PrintWords Go.Proofs.YtmofdldplbplbaaDoorW.PrintMore
def rowL {α : Type} (p : α → Bool) : List α → Nat
  | [] => 0
  | y :: ys => (if p y then 1 else 0) + 2 * rowL p ys
theorem rowL_bit {α : Type} (p : α → Bool) (l : List α) : ∀ j : Nat, (rowL p l).testBit j = true ↔ ∃ y, l[j]? = some y ∧ p y = true := by
  induction l with
  | nil => intro j; simp [rowL]
  | cons y ys ih =>
    intro j
    cases j with
    | zero =>
      have key : rowL p (y :: ys) = (if p y then 1 else 0) + 2 * rowL p ys := rfl
      rw [Nat.testBit_zero, decide_eq_true_eq, key]
      simp only [List.getElem?_cons_zero, Option.some.injEq, exists_eq_left']
      by_cases hp : p y = true
      · rw [if_pos hp]
        exact ⟨fun _ => hp, fun _ => by omega⟩
      · rw [if_neg hp]
        exact ⟨fun h => by omega, fun h => absurd h hp⟩
    | succ j =>
      rw [Nat.testBit_succ, show rowL p (y :: ys) / 2 = rowL p ys by simp only [rowL]; split <;> omega, ih j]
      simp
theorem rowL_lt {α : Type} (p : α → Bool) (l : List α) : rowL p l < 2 ^ l.length := by
  induction l with
  | nil => simp [rowL]
  | cons y ys ih =>
    simp only [rowL, List.length_cons, Nat.pow_succ]
    split <;> omega
def asI (R : List Nat) : List Int := R.map fun x : Nat => (x : Int)
theorem asI_at (R : List Nat) (v : Nat) (h : v < R.length) : rd (asI R) (v : Int) = (R[v] : Nat) := by
  simp [rd, asI, List.getD_eq_getElem?_getD, h]
theorem mx_rows {α β : Type} (P : α → β → Bool) (L : List α) (M : List β) (e : L.length = M.length) : Mx (M.length : Int) (asI (L.map fun x => rowL (P x) M)) (fun v w => ∃ x y, L[v.toNat]? = some x ∧ M[w.toNat]? = some y ∧ P x y = true) := by
  refine ⟨by simp [asI, e], fun v v0 v1 => ?_⟩
  obtain ⟨v, rfl⟩ := Int.eq_ofNat_of_zero_le v0
  have hv : v < L.length := by omega
  rw [asI_at _ v (by simpa using hv), List.getElem_map]
  refine ⟨⟨by omega, ?_⟩, fun w w0 w1 => ?_⟩
  · have := rowL_lt (P L[v]) M
    rw [Int.toNat_natCast]
    exact_mod_cast this
  · obtain ⟨w, rfl⟩ := Int.eq_ofNat_of_zero_le w0
    rw [tb_nat, rowL_bit]
    simp only [Int.toNat_natCast, List.getElem?_eq_getElem hv]
    constructor
    · rintro ⟨y, h1, h2⟩
      exact ⟨_, y, rfl, h1, h2⟩
    · rintro ⟨x, y, h0, h1, h2⟩
      cases h0
      exact ⟨y, h1, h2⟩
def follb (kz : Bool) (K : Nat) (x y : List Int) : Bool := decide (x.drop 1 = y.take (K - 1)) && (!kz || decide (rd y ((K : Int) - 1) ≠ rd x ((K : Int) - 1)))
def wrows (kz : Bool) (K : Nat) (l : List (List Int)) : List Nat := l.map fun x => rowL (follb kz K x) l
theorem rdL1_some {l : List (List Int)} {v : Int} {x : List Int} (h : l[v.toNat]? = some x) : rd_L2 l v = x := by
  simp [rd_L2, List.getD_eq_getElem?_getD, h]
theorem some_at {α : Type} {l : List α} {v : Int} (v0 : 0 ≤ v) (v1 : v < l.length) : ∃ x, l[v.toNat]? = some x := ⟨_, List.getElem?_eq_getElem (by omega)⟩
theorem mx_word (kz : Bool) (K : Nat) (l : List (List Int)) : Mx (l.length : Int) (asI (wrows kz K l)) (foll kz K l) := by
  refine (mx_rows (follb kz K) l l rfl).imp fun v w v0 v1 w0 w1 => ?_
  obtain ⟨x, hx⟩ := some_at v0 v1
  obtain ⟨y, hy⟩ := some_at w0 w1
  simp only [foll, rdL1_some hx, rdL1_some hy, hx, hy, Option.some.injEq]
  have : follb kz K x y = true ↔ x.drop 1 = y.take (K - 1) ∧ (kz = true → rd y ((K : Int) - 1) ≠ rd x ((K : Int) - 1)) := by
    unfold follb
    rw [Bool.and_eq_true, Bool.or_eq_true, decide_eq_true_eq, decide_eq_true_eq]
    cases kz <;> simp
  rw [← this]
  constructor
  · rintro ⟨_, _, rfl, rfl, h⟩
    exact h
  · intro h
    exact ⟨x, y, rfl, rfl, h⟩
def lrows (e : List (List Int)) : List Nat := e.map fun a => rowL (fun b => decide (rd a 1 = rd b 0)) e
theorem mx_line (e : List (List Int)) : Mx (e.length : Int) (asI (lrows e)) (meets e) := by
  refine (mx_rows (fun a b => decide (rd a 1 = rd b 0)) e e rfl).imp fun v w v0 v1 w0 w1 => ?_
  obtain ⟨x, hx⟩ := some_at v0 v1
  obtain ⟨y, hy⟩ := some_at w0 w1
  simp only [meets, rdL1_some hx, rdL1_some hy, hx, hy, Option.some.injEq]
  constructor
  · rintro ⟨_, _, rfl, rfl, h⟩
    exact of_decide_eq_true h
  · intro h
    exact ⟨x, y, rfl, rfl, decide_eq_true h⟩
def trows (R : List Nat) (n : Nat) : List Nat := (List.range n).map fun u => rowL (fun x : Nat => x.testBit u) R
theorem mx_turn (R : List Nat) (n : Nat) (e : R.length = n) : Mx (n : Int) (asI (trows R n)) (fun v w => tb (rd (asI R) w) v = true) := by
  subst e
  refine (mx_rows (fun (u : Nat) (x : Nat) => x.testBit u) (List.range R.length) R (by simp)).imp fun v w v0 v1 w0 w1 => ?_
  obtain ⟨v, rfl⟩ := Int.eq_ofNat_of_zero_le v0
  obtain ⟨w, rfl⟩ := Int.eq_ofNat_of_zero_le w0
  have hw : w < R.length := by omega
  have hv : v < R.length := by omega
  rw [asI_at R w hw, tb_nat]
  simp only [Int.toNat_natCast, List.getElem?_eq_getElem hw, List.getElem?_range hv, Option.some.injEq]
  constructor
  · rintro ⟨_, _, rfl, rfl, h⟩
    exact h
  · intro h
    exact ⟨_, _, rfl, rfl, h⟩
def stepN : List Nat → Nat → Nat
  | [], _ => 0
  | r :: rs, S => (if S % 2 = 1 then r else 0) ||| stepN rs (S / 2)
theorem stepN_bit (R : List Nat) : ∀ (S u : Nat), (stepN R S).testBit u = true ↔ ∃ w r, R[w]? = some r ∧ S.testBit w = true ∧ r.testBit u = true := by
  induction R with
  | nil => intro S u; simp [stepN]
  | cons r rs ih =>
    intro S u
    simp only [stepN, Nat.testBit_or, Bool.or_eq_true, ih]
    constructor
    · rintro (h | ⟨w, x, h1, h2, h3⟩)
      · by_cases z : S % 2 = 1
        · rw [if_pos z] at h
          exact ⟨0, r, rfl, by rw [Nat.testBit_zero]; simpa using z, h⟩
        · rw [if_neg z] at h
          simp at h
      · exact ⟨w + 1, x, by simpa using h1, by rw [Nat.testBit_succ]; exact h2, h3⟩
    · rintro ⟨w, x, h1, h2, h3⟩
      cases w with
      | zero =>
        simp at h1
        subst h1
        rw [Nat.testBit_zero] at h2
        exact .inl (by rw [if_pos (by simpa using h2)]; exact h3)
      | succ w => exact .inr ⟨w, x, by simpa using h1, by rw [Nat.testBit_succ] at h2; exact h2, h3⟩
def walkN (R : List Nat) (S : Nat) : Nat → Nat
  | 0 => S
  | k + 1 => stepN R (walkN R S k)
theorem walkN_bit {R : List Nat} {n : Nat} (e : R.length = n) (hR : ∀ r ∈ R, r < 2 ^ n) {s : Nat} (hs : s < n) : ∀ (k u : Nat), (walkN R (2 ^ s) k).testBit u = true ↔ Wk n (asI R) s k u := by
  intro k
  induction k with
  | zero =>
    intro u
    simp only [walkN, Wk, Nat.testBit_two_pow, decide_eq_true_eq]
    omega
  | succ k ih =>
    intro u
    simp only [walkN, Wk, stepN_bit]
    constructor
    · rintro ⟨w, r, h1, h2, h3⟩
      have hw : w < R.length := by
        by_cases z : w < R.length
        · exact z
        · rw [List.getElem?_eq_none (by omega)] at h1
          cases h1
      rw [List.getElem?_eq_getElem hw] at h1
      cases h1
      have hu : u < n := by
        by_cases z : u < n
        · exact z
        · have h4 := hR _ (List.getElem_mem hw)
          have h5 : 2 ^ n ≤ 2 ^ u := Nat.pow_le_pow_right (by decide) (by omega)
          rw [Nat.testBit_lt_two_pow (by omega)] at h3
          cases h3
      exact ⟨by omega, w, by omega, (ih w).1 h2, by rw [asI_at R w hw, tb_nat]; exact h3⟩
    · rintro ⟨hu, w, hw, h1, h2⟩
      obtain ⟨w, rfl⟩ := Int.eq_ofNat_of_zero_le hw.1
      have hw : w < R.length := by omega
      rw [asI_at R w hw, tb_nat] at h2
      exact ⟨w, R[w], List.getElem?_eq_getElem hw, (ih w).2 h1, h2⟩
def upTo (R : List Nat) (S : Nat) : Nat → Nat
  | 0 => S
  | k + 1 => upTo R S k ||| walkN R S (k + 1)
theorem upTo_bit (R : List Nat) (S u : Nat) : ∀ k, (upTo R S k).testBit u = true ↔ ∃ j, j ≤ k ∧ (walkN R S j).testBit u = true := by
  intro k
  induction k with
  | zero =>
    simp only [upTo]
    constructor
    · intro h
      exact ⟨0, Nat.le_refl _, h⟩
    · rintro ⟨j, hj, h⟩
      obtain rfl : j = 0 := by omega
      exact h
  | succ k ih =>
    simp only [upTo, Nat.testBit_or, Bool.or_eq_true, ih]
    constructor
    · rintro (⟨j, hj, h⟩ | h)
      · exact ⟨j, by omega, h⟩
      · exact ⟨k + 1, Nat.le_refl _, h⟩
    · rintro ⟨j, hj, h⟩
      by_cases z : j = k + 1
      · subst z
        exact .inr h
      · exact .inl ⟨j, by omega, h⟩
def diamB (R : List Nat) (n K : Nat) : Bool := R.all (fun r => decide (r < 2 ^ n)) && (List.range n).all (fun s => upTo R (2 ^ s) (K + 1) == 2 ^ n - 1) && (List.range n).any (fun s => upTo R (2 ^ s) K != 2 ^ n - 1)
theorem reach_is {n : Int} {l : List Int} (n0 : 0 ≤ n) (n2 : n ≤ 62) (K : Nat) (hA : ∀ s u : Int, 0 ≤ s → s < n → 0 ≤ u → u < n → ∃ j, j ≤ K ∧ Wk n l s j u) (hB : ∃ s u : Int, (0 ≤ s ∧ s < n) ∧ (0 ≤ u ∧ u < n) ∧ ∀ j, j < K → ¬ Wk n l s j u) : reach n l n.toNat 0 0 = K := by
  have one : ∀ s : Int, 0 ≤ s → s < n → ¬ Cut n (dist n l s) ∧ ∃ m, top (dist n l s) = m ∧ 0 ≤ m ∧ m ≤ K ∧ ((∃ u : Int, (0 ≤ u ∧ u < n) ∧ ∀ j, j < K → ¬ Wk n l s j u) → m = K) := by
    intro s s0 s1
    have hd := distL n l s n0
    have val : ∀ u : Int, 0 ≤ u → u < n → ∃ d : Nat, rd (dist n l s) u = (d : Int) ∧ d ≤ K ∧ Ds n l s d u := by
      intro u u0 u1
      obtain ⟨j, hj, hw⟩ := hA s u s0 s1 u0 u1
      rcases hd.2 u u0 u1 with ⟨_, h⟩ | ⟨d, h1, h2⟩
      · exact absurd hw (h j)
      · obtain ⟨d', hd', h3⟩ := hw.least
        obtain rfl := h2.uniq h3
        exact ⟨d, h1, by omega, h2⟩
    refine ⟨?_, ?_⟩
    · rintro ⟨u, hu, e⟩
      obtain ⟨d, h, _⟩ := val u hu.1 hu.2
      omega
    · obtain ⟨m, hm, hmax⟩ := r_max (dist n l s) (by have := hd.1; omega) (by have := hd.1; omega)
      obtain ⟨u, u0, u1, e⟩ := hmax.2
      have hl := hd.1
      obtain ⟨d, h1, h2, h3⟩ := val u u0 (by omega)
      refine ⟨m, top_eq hmax, by omega, by omega, ?_⟩
      rintro ⟨u', hu', hn⟩
      obtain ⟨d', h4, h5, h6⟩ := val u' hu'.1 hu'.2
      have h7 := hmax.1 u' hu'.1 (by omega)
      have : ¬ d' < K := fun z => hn d' z h6.1
      omega
  have go : ∀ (d : Nat) (v acc : Int), 0 ≤ v → v ≤ n → n - v = d → 0 ≤ acc → acc ≤ K → (acc = K ∨ ∃ s u : Int, (v ≤ s ∧ s < n) ∧ (0 ≤ u ∧ u < n) ∧ ∀ j, j < K → ¬ Wk n l s j u) → reach n l d v acc = K := by
    intro d
    induction d with
    | zero =>
      intro v acc v0 v1 hd a0 a1 h
      simp only [reach]
      rcases h with h | ⟨s, _, hs, _⟩
      · exact h
      · omega
    | succ d ih =>
      intro v acc v0 v1 hd a0 a1 h
      obtain ⟨nc, m, e, m0, m1, mk⟩ := one v v0 (by omega)
      simp only [reach]
      rw [if_neg nc, e]
      have hx : mx acc m = max acc m := by unfold mx; split <;> omega
      rw [hx]
      refine ih (v + 1) _ (by omega) (by omega) (by omega) (by omega) (by omega) ?_
      rcases h with h | ⟨s, u, hs, hu, hn⟩
      · exact .inl (by omega)
      · by_cases z : s = v
        · subst z
          have := mk ⟨u, hu, hn⟩
          exact .inl (by omega)
        · exact .inr ⟨s, u, by omega, hu, hn⟩
  obtain ⟨s, u, hs, hu, hn⟩ := hB
  exact go n.toNat 0 0 (by omega) (by omega) (by omega) (by omega) (by omega) (.inr ⟨s, u, hs, hu, hn⟩)
theorem full_iff {x n : Nat} (hx : x < 2 ^ n) : x = 2 ^ n - 1 ↔ ∀ u, u < n → x.testBit u = true := by
  constructor
  · rintro rfl u hu
    simp [Nat.testBit_two_pow_sub_one, hu]
  · intro h
    refine Nat.eq_of_testBit_eq fun u => ?_
    by_cases hu : u < n
    · rw [h u hu]
      simp [Nat.testBit_two_pow_sub_one, hu]
    · have h5 : 2 ^ n ≤ 2 ^ u := Nat.pow_le_pow_right (by decide) (by omega)
      rw [Nat.testBit_lt_two_pow (by omega), Nat.testBit_lt_two_pow (by omega)]
theorem diam_of {R : List Nat} {n K : Nat} (n2 : n ≤ 62) (e : R.length = n) (h : diamB R n K = true) : reach n (asI R) n 0 0 = ((K + 1 : Nat) : Int) := by
  unfold diamB at h
  simp only [Bool.and_eq_true, List.all_eq_true, List.any_eq_true, decide_eq_true_eq, beq_iff_eq, bne_iff_ne, List.mem_range] at h
  obtain ⟨⟨hR, hA⟩, s, hs, hB⟩ := h
  have lt : ∀ s k, s < n → upTo R (2 ^ s) k < 2 ^ n := by
    intro s k hs
    refine Nat.lt_pow_two_of_testBit _ fun u hu => ?_
    cases z : (upTo R (2 ^ s) k).testBit u with
    | false => rfl
    | true =>
      obtain ⟨j, _, hj⟩ := (upTo_bit R _ u k).1 z
      have := ((walkN_bit e hR hs j u).1 hj).range (by omega) (by omega)
      omega
  have := reach_is (n := n) (l := asI R) (by omega) (by omega) (K + 1) (fun s u s0 s1 u0 u1 => ?_) ?_
  · rwa [Int.toNat_natCast] at this
  · obtain ⟨s, rfl⟩ := Int.eq_ofNat_of_zero_le s0
    obtain ⟨u, rfl⟩ := Int.eq_ofNat_of_zero_le u0
    have hs : s < n := by omega
    obtain ⟨j, hj, hw⟩ := (upTo_bit R _ u _).1 ((full_iff (lt s (K + 1) hs)).1 (hA s hs) u (by omega))
    exact ⟨j, hj, (walkN_bit e hR hs j u).1 hw⟩
  · by_cases z : ∃ u, u < n ∧ (upTo R (2 ^ s) K).testBit u = false
    · obtain ⟨u, hu, hz⟩ := z
      refine ⟨s, u, by omega, by omega, fun j hj hw => ?_⟩
      rw [(upTo_bit R _ u K).2 ⟨j, by omega, (walkN_bit e hR hs j u).2 hw⟩] at hz
      cases hz
    · refine absurd ((full_iff (lt s K hs)).2 fun u hu => ?_) hB
      cases q : (upTo R (2 ^ s) K).testBit u with
      | true => rfl
      | false => exact absurd ⟨u, hu, q⟩ z
def degB (R : List Nat) (n d : Nat) : Bool := R.all (fun r => pc 64 r == d) && (trows R n).all (fun r => pc 64 r == d)
theorem deg_of {R : List Nat} {n d : Nat} (e : R.length = n) (n0 : 0 < n) (h : degB R n d = true) {r : List Int} (hr : Mx (n : Int) r (fun v w => tb (rd (asI R) w) v = true)) : regD n (asI R) r ∧ deg (asI R) 0 = d := by
  unfold degB at h
  simp only [Bool.and_eq_true, List.all_eq_true, beq_iff_eq] at h
  have rl : ∀ (T : List Nat), (∀ r ∈ T, pc 64 r = d) → ∀ v : Int, 0 ≤ v → v < T.length → deg (asI T) v = d := by
    intro T hT v v0 v1
    obtain ⟨v, rfl⟩ := Int.eq_ofNat_of_zero_le v0
    have hv : v < T.length := by omega
    unfold deg
    rw [asI_at T v hv, Int.toNat_natCast, hT _ (List.getElem_mem hv)]
  obtain rfl := (mx_turn R n e).eq hr (by omega)
  have tl : (trows R n).length = n := by simp [trows]
  have d0 := rl R h.1 0 (by omega) (by omega)
  refine ⟨fun v v0 v1 => ?_, d0⟩
  rw [d0]
  exact ⟨rl R h.1 v v0 (by omega), rl _ h.2 v v0 (by omega)⟩
def lineB (m : Nat) (kz : Bool) (K : Nat) : Bool :=
  decide (lrows (arcsTo (asI (wrows kz K (extW m kz K []))) (extW m kz K []).length) = wrows kz (K + 1) (extW m kz (K + 1) []))
def sizeB (m : Nat) (kz : Bool) (K : Nat) : Bool := decide (1 ≤ (extW m kz K []).length) && decide ((extW m kz K []).length ≤ 62)
def plainB (m K : Nat) : Bool := sizeB m false (K + 1) && (if m = 0 then decide ((extW m false (K + 1) []).length = 1) else diamB (wrows false (K + 1) (extW m false (K + 1) [])) (extW m false (K + 1) []).length K) && (decide (62 < (m + 1) ^ (K + 2)) || decide (K = 9) || sizeB m false (K + 2) && lineB m false (K + 1))
def kautzB (m K : Nat) : Bool := sizeB m true (K + 1) && degB (wrows true (K + 1) (extW m true (K + 1) [])) (extW m true (K + 1) []).length m && (if m = 1 then diamB (wrows true (K + 1) (extW m true (K + 1) [])) (extW m true (K + 1) []).length 0 else diamB (wrows true (K + 1) (extW m true (K + 1) [])) (extW m true (K + 1) []).length K) && (decide (62 < (m + 1) * m ^ (K + 1)) || decide (K = 9) || sizeB m true (K + 2) && lineB m true (K + 1))
end Go.Proofs.YtmofdldplbplbaaDoor.Q
namespace Go.Proofs.YtmofdldplbplbaaDoor.Q
open Go Go.RowKit Go.Proofs.YtmofdldplbplbaaDoor.P Go.Proofs.YtmofdldplbplbaaDoorW.PrintWords Go.Proofs.YtmofdldplbplbaaDoorW.PrintMore
def wd (m : Nat) (kz : Bool) (K : Nat) : List Int := asI (wrows kz K (extW m kz K []))
def wn (m : Nat) (kz : Bool) (K : Nat) : Int := ((extW m kz K []).length : Int)
theorem wd_len (m : Nat) (kz : Bool) (K : Nat) : ((wd m kz K).length : Int) = wn m kz K := by simp [wd, wn, asI, wrows]
theorem kautz_val (d k : Int) : ∃ c m r g, r.length ≤ 62 ∧ g.length ≤ 62 ∧ (∀ x ∈ g, x.length ≤ 10) ∧ Ev (fun z => spec_KautzDigraph.f z d k) (m, r, c) ∧ Ev (fun z => impl_KautzDigraph.f z d k) (m, r, c) ∧ Ev (fun z => spec_KautzWords.f z d k) (g, c) ∧ Ev (fun z => impl_KautzWords.f z d k) (g, c) ∧
    (c ≠ 0 → m = 0) ∧ (c = 0 → ∃ M K : Nat, d = ((M + 1 : Nat) : Int) ∧ k = ((K + 1 : Nat) : Int) ∧ M ≤ 60 ∧ K ≤ 9 ∧ (M + 2) * (M + 1) ^ K ≤ 62 ∧ m = wn (M + 1) true (K + 1) ∧ r = wd (M + 1) true (K + 1) ∧ (g.length : Int) = m) := by
  obtain ⟨c, hs, hi, h0⟩ := kcodes d k
  unfold spec_KautzDigraph.f impl_KautzDigraph.f spec_KautzWords.f impl_KautzWords.f
  by_cases z : c = 0
  · obtain ⟨D, K, rfl, rfl, D1, D2, K1, K2, hb⟩ := h0 z
    have hn := kbound D1 K1 hb
    have ht := i_kautzWords D K (by omega) (by omega) hn
    have hl := s_list D D K true (by simp) (by omega) (by omega) (by omega) K [] (by simp) (hn K (Nat.le_refl _))
    have hw : wordsOf K (extW D true K []) := fun x hx => (extW_len_pos hx).1
    have hlen := hn K (Nat.le_refl _)
    obtain ⟨M, rfl⟩ : ∃ M, D = M + 1 := ⟨D - 1, by omega⟩
    obtain ⟨K, rfl⟩ : ∃ M, K = M + 1 := ⟨K - 1, by omega⟩
    obtain ⟨r, hr, hx⟩ := s_wordD hw K1 K2 true _ rfl (by omega)
    obtain ⟨r', hr', hx'⟩ := i_kautzD hw K1 K2 _ rfl (by omega)
    obtain rfl := hr.eq hr' (by omega)
    have er : r = wd (M + 1) true (K + 1) := hr.eq (mx_word true (K + 1) _) (by omega)
    refine ⟨0, (extW (M + 1) true (K + 1) []).length, r, extW (M + 1) true (K + 1) [], by have := hr.1; omega, hlen, fun x hx => ?_, Ev.bind hs (ev_pos z (Ev.bind hl (Ev.bind hx (Ev.now _)))), Ev.bind hi (ev_pos z ?_), Ev.bind hs (ev_pos z (Ev.bind hl (Ev.now _))), Ev.bind hi (ev_pos z (Ev.bind ht (Ev.now _))), fun q => absurd rfl q, fun _ => ⟨M, K, rfl, rfl, by omega, by omega, hb, rfl, er, rfl⟩⟩
    · have := (extW_len_pos hx).1
      omega
    · unfold impl_kautz.f
      exact Ev.bind (a := (((extW (M + 1) true (K + 1) []).length : Int), r)) (Ev.bind ht (Ev.bind hx' (Ev.now _))) (Ev.now _)
  · exact ⟨c, 0, [], [], by simp, by simp, by simp, Ev.bind hs (ev_neg z (Ev.now _)), Ev.bind hi (ev_neg z (Ev.now _)), Ev.bind hs (ev_neg z (Ev.now _)), Ev.bind hi (ev_neg z (Ev.now _)), fun _ => rfl, fun q => absurd q z⟩
theorem bruijn_val (d k : Int) (hd : -9223372036854775808 ≤ d ∧ d < 9223372036854775808) (hk : -9223372036854775808 ≤ k ∧ k < 9223372036854775808) : ∃ m r c, r.length ≤ 62 ∧ Ev (fun z => spec_DeBruijnDigraph.f z d k) (m, r, c) ∧ Ev (fun z => impl_DeBruijnDigraph.f z d k) (m, r, c) ∧
    (c = 0 → ∃ M K : Nat, d = ((M + 1 : Nat) : Int) ∧ k = ((K + 1 : Nat) : Int) ∧ M ≤ 61 ∧ K ≤ 9 ∧ (M + 1) ^ (K + 1) ≤ 62 ∧ m = wn M false (K + 1) ∧ r = wd M false (K + 1)) := by
  have ij : ∀ (b : Bool) (q : Int × List Int × Int), Ev (fun z => impl_DeBruijnDigraph.j0 z d k b) q → (b = true → d < 1 ∨ d > 62 ∨ k < 1 ∨ k > 10) → (b = false → ¬ (d < 1 ∨ d > 62 ∨ k < 1 ∨ k > 10)) → Ev (fun z => impl_DeBruijnDigraph.f z d k) q := by
    intro b q h h1 h2
    unfold impl_DeBruijnDigraph.f
    by_cases c1 : d < 1
    · obtain rfl : b = true := by cases b with | true => rfl | false => exact absurd (.inl c1) (h2 rfl)
      exact ev_pos c1 h
    refine ev_neg c1 ?_
    by_cases c2 : d > 62
    · obtain rfl : b = true := by cases b with | true => rfl | false => exact absurd (.inr (.inl c2)) (h2 rfl)
      exact ev_pos c2 h
    refine ev_neg c2 ?_
    by_cases c3 : k < 1
    · obtain rfl : b = true := by cases b with | true => rfl | false => exact absurd (.inr (.inr (.inl c3))) (h2 rfl)
      exact ev_pos c3 h
    refine ev_neg c3 ?_
    have : b = decide (k > 10) := by
      cases b with
      | true => have := h1 rfl; exact (decide_eq_true (by omega)).symm
      | false => have := h2 rfl; exact (decide_eq_false (by omega)).symm
    rw [← this]
    exact h
  have sj : ∀ (b : Bool) (q : Int × List Int × Int), Ev (fun z => spec_DeBruijnDigraph.j0 z d k b) q → (b = true → d < 1 ∨ d > 62 ∨ k < 1 ∨ k > 10) → (b = false → ¬ (d < 1 ∨ d > 62 ∨ k < 1 ∨ k > 10)) → Ev (fun z => spec_DeBruijnDigraph.f z d k) q := by
    intro b q h h1 h2
    unfold spec_DeBruijnDigraph.f
    simp only [s_in, Option.bind_some]
    by_cases c1 : 1 ≤ d ∧ d ≤ 62
    · refine ev_pos (decide_eq_true c1) ?_
      have : b = !(decide (1 ≤ k ∧ k ≤ 10)) := by
        cases b with
        | true => have := h1 rfl; rw [decide_eq_false (by omega)]; rfl
        | false => have := h2 rfl; rw [decide_eq_true (by omega)]; rfl
      rw [← this]
      exact h
    · obtain rfl : b = true := by cases b with | true => rfl | false => exact absurd (by omega) (h2 rfl)
      exact ev_neg (by simpa using c1) h
  by_cases c : d < 1 ∨ d > 62 ∨ k < 1 ∨ k > 10
  · refine ⟨0, [], 2, by simp, sj true _ (ev_k ?_) (fun _ => c) (by simp), ij true _ (ev_k ?_) (fun _ => c) (by simp), by simp⟩
    · simp only [spec_DeBruijnDigraph.j0]
      exact ev_pos trivial (Ev.now _)
    · simp only [impl_DeBruijnDigraph.j0]
      exact ev_pos trivial (Ev.now _)
  · obtain ⟨D, rfl⟩ := Int.eq_ofNat_of_zero_le (show 0 ≤ d by omega)
    obtain ⟨K, rfl⟩ := Int.eq_ofNat_of_zero_le (show 0 ≤ k by omega)
    have hi := i_capped D K (by omega) (by omega) (by omega)
    have hs := s_count D K false (by omega) (by omega) (by omega) (by omega)
    rw [if_neg (by decide), show D * D ^ (K - 1) = D ^ K by rw [Nat.mul_comm, ← Nat.pow_succ, show (K - 1).succ = K by omega]] at hs
    by_cases cl : 62 < D ^ K
    · have e : min (D ^ K) 63 = 63 := by omega
      rw [e] at hi hs
      refine ⟨0, [], 3, by simp, sj false _ (ev_k ?_) (by simp) (fun _ => c), ij false _ (ev_k ?_) (by simp) (fun _ => c), by simp⟩
      · simp only [spec_DeBruijnDigraph.j0]
        exact ev_neg (by simp) (Ev.bind hs (ev_pos (by decide) (Ev.now _)))
      · simp only [impl_DeBruijnDigraph.j0]
        exact ev_neg (by simp) (Ev.bind hi (ev_pos (by decide) (Ev.now _)))
    · have e : min (D ^ K) 63 = D ^ K := by omega
      rw [e] at hi hs
      obtain ⟨m, rfl⟩ : ∃ m, D = m + 1 := ⟨D - 1, by omega⟩
      have hn : ∀ i, i ≤ K → (extW m false i []).length ≤ 62 := fun i hi => by
        have a := extW_plain m i []
        have b : (m + 1) ^ i ≤ (m + 1) ^ K := Nat.pow_le_pow_right (by omega) hi
        omega
      have ht := i_tuples m K (by omega) (by omega) hn
      have hl := s_list m (m + 1) K false (by simp) (by omega) (by omega) (by omega) K [] (by simp) (hn K (Nat.le_refl _))
      have hw : wordsOf K (extW m false K []) := fun x hx => (extW_len_pos hx).1
      have hlen := hn K (Nat.le_refl _)
      obtain ⟨r, hr, hx⟩ := s_wordD hw (by omega) (by omega) false _ rfl (by omega)
      obtain ⟨r', hr', hx'⟩ := i_wordD hw (by omega) (by omega) _ rfl (by omega)
      obtain rfl := hr.eq hr' (by omega)
      obtain ⟨K, rfl⟩ : ∃ M, K = M + 1 := ⟨K - 1, by omega⟩
      have er : r = wd m false (K + 1) := hr.eq (mx_word false (K + 1) _) (by omega)
      refine ⟨(extW m false (K + 1) []).length, r, 0, by have := hr.1; omega, sj false _ (ev_k ?_) (by simp) (fun _ => c), ij false _ (ev_k ?_) (by simp) (fun _ => c), fun _ => ⟨m, K, rfl, rfl, by omega, by omega, by omega, rfl, er⟩⟩
      · simp only [spec_DeBruijnDigraph.j0]
        exact ev_neg (by simp) (Ev.bind hs (ev_neg (by omega) (Ev.bind hl (Ev.bind hx (Ev.now _)))))
      · simp only [impl_DeBruijnDigraph.j0]
        exact ev_neg (by simp) (Ev.bind hi (ev_neg (by omega) (Ev.bind ht (Ev.bind hx' (Ev.now _)))))
theorem line_val (n : Int) (l : List Int) : ∃ m r c g q, r.length ≤ 62 ∧ g.length ≤ 4000 ∧ (∀ x ∈ g, x.length ≤ 2) ∧ Ev (fun k => spec_LineDigraph.f k n l) (m, r, c) ∧ Ev (fun k => impl_LineDigraph.f k n l) (m, r, c) ∧ Ev (fun k => impl_ArcsOf.f k n l) (g, q) ∧ (c = 0 → q = 0 ∧ (g.length : Int) = m) ∧ (rows n l → 1 ≤ (arcsTo l n.toNat).length → (arcsTo l n.toNat).length ≤ 62 → c = 0 ∧ r = asI (lrows (arcsTo l n.toNat)) ∧ m = (arcsTo l n.toNat).length) := by
  unfold spec_LineDigraph.f impl_LineDigraph.f impl_ArcsOf.f
  by_cases hg : rows n l
  · have hs := s_arcs hg
    have hi := i_arcs hg
    have hal := arcsTo_length l n.toNat
    have n2 := hg.2.1
    have h2 : ∀ i : Int, 0 ≤ i → i < (arcsTo l n.toNat).length → (rd_L2 (arcsTo l n.toNat) i).length = 2 := fun i i0 i1 => arcs_two hg i0 i1
    have hx2 : ∀ x ∈ arcsTo l n.toNat, x.length ≤ 2 := fun x hx => by
      obtain ⟨v, w, _, _, _, rfl⟩ := (arcsTo_mem hg n.toNat (by have := hg.1; omega) x).1 hx
      simp
    generalize arcsTo l n.toNat = e at hs hi h2 hal hx2
    by_cases z1 : (e.length : Int) = 0
    · exact ⟨0, [], 5, e, 0, by simp, by omega, hx2, Ev.bind ((s_di n l).yes hg) (ev_pos rfl (Ev.bind hs (ev_pos z1 (Ev.now _)))), ev_bind0 (i_di_yes hg) (ev_pos rfl (Ev.bind hi (ev_pos z1 (Ev.now _)))), ev_bind0 (i_di_yes hg) (ev_pos rfl (Ev.bind hi (Ev.now _))), fun q => by simp at q, fun _ q => by omega⟩
    · by_cases z2 : (e.length : Int) > 62
      · exact ⟨0, [], 3, e, 0, by simp, by omega, hx2, Ev.bind ((s_di n l).yes hg) (ev_pos rfl (Ev.bind hs (ev_neg z1 (ev_pos z2 (Ev.now _))))), ev_bind0 (i_di_yes hg) (ev_pos rfl (Ev.bind hi (ev_neg z1 (ev_pos z2 (Ev.now _))))), ev_bind0 (i_di_yes hg) (ev_pos rfl (Ev.bind hi (Ev.now _))), fun q => by simp at q, fun _ _ q => by omega⟩
      · obtain ⟨r, hr, hx⟩ := s_line h2 _ rfl (by omega)
        obtain ⟨r', hr', hx'⟩ := i_line h2 _ rfl (by omega)
        obtain rfl := hr.eq hr' (by omega)
        have er : r = asI (lrows e) := hr.eq (mx_line e) (by omega)
        exact ⟨e.length, r, 0, e, 0, by have := hr.1; omega, by omega, hx2, Ev.bind ((s_di n l).yes hg) (ev_pos rfl (Ev.bind hs (ev_neg z1 (ev_neg z2 (ev_pos (by omega) (ev_pos (by omega) hx)))))), ev_bind0 (i_di_yes hg) (ev_pos rfl (Ev.bind hi (ev_neg z1 (ev_neg z2 (Ev.bind hx' (Ev.now _)))))), ev_bind0 (i_di_yes hg) (ev_pos rfl (Ev.bind hi (Ev.now _))), fun _ => ⟨rfl, rfl⟩, fun _ _ _ => ⟨rfl, er, rfl⟩⟩
  · exact ⟨0, [], 1, [], 1, by simp, by simp, by simp, Ev.bind ((s_di n l).no hg) (ev_neg (by decide) (Ev.now _)), ev_bind0 (i_di_no hg) (ev_neg (by decide) (Ev.now _)), ev_bind0 (i_di_no hg) (ev_neg (by decide) (Ev.now _)), fun q => by simp at q, fun q => absurd q hg⟩
end Go.Proofs.YtmofdldplbplbaaDoor.Q
namespace Go.Proofs.YtmofdldplbplbaaDoor.Q
open Go Go.RowKit
set_option maxRecDepth 1000000
theorem plain1 : (List.range 62).all (fun m => decide (62 < (m + 1) ^ 1) || plainB m 0) = true := by decide +kernel
theorem plain2 : (List.range 9).all (fun i => (List.range 7).all fun m => decide (62 < (m + 1) ^ (i + 2)) || plainB m (i + 1)) = true := by decide +kernel
theorem kautz1 : (List.range 61).all (fun m => kautzB (m + 1) 0) = true := by decide +kernel
theorem kautz2 : (List.range 9).all (fun i => (List.range 7).all fun m => decide (62 < (m + 2) * (m + 1) ^ (i + 1)) || kautzB (m + 1) (i + 1)) = true := by decide +kernel
theorem plain_at {M K : Nat} (hM : M ≤ 61) (hK : K ≤ 9) (hb : (M + 1) ^ (K + 1) ≤ 62) : plainB M K = true := by
  cases K with
  | zero =>
    have := List.all_eq_true.1 plain1 M (List.mem_range.2 (by omega))
    rw [Bool.or_eq_true] at this
    rcases this with h | h
    · have := of_decide_eq_true h
      have hb : (M + 1) ^ 1 ≤ 62 := hb
      omega
    · exact h
  | succ i =>
    have h2 : (M + 1) ^ 2 ≤ (M + 1) ^ (i + 1 + 1) := Nat.pow_le_pow_right (by omega) (by omega)
    have h3 : M ≤ 6 := by
      by_cases z : M ≤ 6
      · exact z
      · have : 8 ^ 2 ≤ (M + 1) ^ 2 := Nat.pow_le_pow_left (by omega) 2
        omega
    have := List.all_eq_true.1 (List.all_eq_true.1 plain2 i (List.mem_range.2 (by omega))) M (List.mem_range.2 (by omega))
    rw [Bool.or_eq_true] at this
    rcases this with h | h
    · have := of_decide_eq_true h
      rw [show i + 1 + 1 = i + 2 from rfl] at hb
      omega
    · exact h
theorem kautz_at {M K : Nat} (hM : M ≤ 60) (hK : K ≤ 9) (hb : (M + 2) * (M + 1) ^ K ≤ 62) : kautzB (M + 1) K = true := by
  cases K with
  | zero => exact List.all_eq_true.1 kautz1 M (List.mem_range.2 (by omega))
  | succ i =>
    have h2 : (M + 1) ^ 1 ≤ (M + 1) ^ (i + 1) := Nat.pow_le_pow_right (by omega) (by omega)
    have h4 := Nat.mul_le_mul_left (M + 2) h2
    have h3 : M ≤ 6 := by
      by_cases z : M ≤ 6
      · exact z
      · have : 9 * 8 ≤ (M + 2) * (M + 1) ^ 1 := Nat.mul_le_mul (by omega) (by rw [Nat.pow_one]; omega)
        omega
    have := List.all_eq_true.1 (List.all_eq_true.1 kautz2 i (List.mem_range.2 (by omega))) M (List.mem_range.2 (by omega))
    rw [Bool.or_eq_true] at this
    rcases this with h | h
    · have := of_decide_eq_true h
      omega
    · exact h
end Go.Proofs.YtmofdldplbplbaaDoor.Q
namespace Go.Proofs.YtmofdldplbplbaaDoor.Q
open Go Go.RowKit Go.Proofs.YtmofdldplbplbaaDoor.P Go.Proofs.YtmofdldplbplbaaDoorW.PrintWords Go.Proofs.YtmofdldplbplbaaDoorW.PrintMore
theorem like_self (r : List Int) (hr : r.length ≤ 1048576) : Ev (fun k => laws_likeInts.f k r r) true := by
  have loop : ∀ (d : Nat) (i : Int), 0 ≤ i → i + d = r.length → Ev (fun k => laws_likeInts.l0 k r r i) true := by
    intro d
    induction d with
    | zero =>
      intro i i0 hi
      refine ev_k ?_
      simp only [laws_likeInts.l0]
      exact ev_neg (by omega) (Ev.now _)
    | succ d ih =>
      intro i i0 hi
      refine ev_k ?_
      simp only [laws_likeInts.l0]
      rw [w64 (a := i + 1) (by omega) (by omega)]
      exact ev_pos (by omega) (ev_pos i0 (ev_pos (by omega) (ev_pos trivial (ih (i + 1) (by omega) (by omega)))))
  unfold laws_likeInts.f
  exact ev_pos rfl (loop r.length 0 (by omega) (by omega))
theorem dig_self (m : Int) (r : List Int) (hr : r.length ≤ 1048576) : Ev (fun k => laws_digraph9.f k m r m r) true := by
  unfold laws_digraph9.f
  exact ev_pos rfl (Ev.bind (like_self r hr) (Ev.now _))
theorem rows_self (g : List (List Int)) (hg : g.length ≤ 1048576) (hx : ∀ x ∈ g, x.length ≤ 1048576) : Ev (fun k => laws_rows9.f k g g) true := by
  have loop : ∀ (d : Nat) (i : Int), 0 ≤ i → i + d = g.length → Ev (fun k => laws_rows9.l0 k g g i) true := by
    intro d
    induction d with
    | zero =>
      intro i i0 hi
      refine ev_k ?_
      simp only [laws_rows9.l0]
      exact ev_neg (by omega) (Ev.now _)
    | succ d ih =>
      intro i i0 hi
      have hm : (rd_L2 g i).length ≤ 1048576 := by
        have hi' : i.toNat < g.length := by omega
        have : rd_L2 g i = g[i.toNat] := by simp [rd_L2, List.getD_eq_getElem?_getD, List.getElem?_eq_getElem hi']
        rw [this]
        exact hx _ (List.getElem_mem _)
      refine ev_k ?_
      simp only [laws_rows9.l0]
      rw [w64 (a := i + 1) (by omega) (by omega)]
      exact ev_pos (by omega) (ev_pos i0 (ev_pos (by omega) (Ev.bind (like_self _ hm) (ev_pos rfl (ih (i + 1) (by omega) (by omega))))))
  unfold laws_rows9.f
  exact ev_pos rfl (loop g.length 0 (by omega) (by omega))
end Go.Proofs.YtmofdldplbplbaaDoor.Q
namespace Go.Proofs.YtmofdldplbplbaaDoor.Q
open Go Go.RowKit Go.Proofs.YtmofdldplbplbaaDoor.P Go.Proofs.YtmofdldplbplbaaDoorW.PrintWords Go.Proofs.YtmofdldplbplbaaDoorW.PrintMore
theorem mono_seq : ∀ k, (∀ y0 y1 y2 y3, LeO (spec_l08Sequence.l0 k y0 y1 y2 y3) (spec_l08Sequence.l0 (k + 1) y0 y1 y2 y3)) ∧ (∀ y0 y1 y2 y3, LeO (spec_l08Sequence.j1 k y0 y1 y2 y3) (spec_l08Sequence.j1 (k + 1) y0 y1 y2 y3)) ∧ (∀ y0 y1 y2 y3 y4 y5, LeO (spec_l08Sequence.l1 k y0 y1 y2 y3 y4 y5) (spec_l08Sequence.l1 (k + 1) y0 y1 y2 y3 y4 y5)) ∧ (∀ y0 y1 y2 y3, LeO (spec_l08Sequence.l2 k y0 y1 y2 y3) (spec_l08Sequence.l2 (k + 1) y0 y1 y2 y3))
  | 0 => ⟨fun _ _ _ _ r h => by simp [spec_l08Sequence.l0] at h, fun _ _ _ _ r h => by simp [spec_l08Sequence.j1] at h, fun _ _ _ _ _ _ r h => by simp [spec_l08Sequence.l1] at h, fun _ _ _ _ r h => by simp [spec_l08Sequence.l2] at h⟩
  | k + 1 => by
    obtain ⟨ih0, ih1, ih2, ih3⟩ := mono_seq k
    refine ⟨?_, ?_, ?_, ?_⟩
    · intro y0 y1 y2 y3
      unfold spec_l08Sequence.l0
      repeat' first | (with_reducible exact ih1 _ _ _ _) | (with_reducible exact le_refl _) | (with_reducible exact le_none _) | (with_reducible refine le_ite ?_ ?_) | (with_reducible refine le_bind ?_ (fun _ => ?_))
    · intro y0 y1 y2 y3
      unfold spec_l08Sequence.j1
      exact ih2 _ _ _ _ _ _
    · intro y0 y1 y2 y3 y4 y5
      unfold spec_l08Sequence.l1
      repeat' first | (with_reducible exact ih2 _ _ _ _ _ _) | (with_reducible exact ih3 _ _ _ _) | (with_reducible exact le_refl _) | (with_reducible exact le_none _) | (with_reducible refine le_ite ?_ ?_) | (with_reducible refine le_bind ?_ (fun _ => ?_))
    · intro y0 y1 y2 y3
      unfold spec_l08Sequence.l2
      repeat' first | (with_reducible exact ih0 _ _ _ _) | (with_reducible exact ih3 _ _ _ _) | (with_reducible exact le_refl _) | (with_reducible exact le_none _) | (with_reducible refine le_ite ?_ ?_) | (with_reducible refine le_bind ?_ (fun _ => ?_))
theorem mono_count : ∀ k, (∀ y0 y1 y2 y3, LeO (spec_WordSequence.l0 k y0 y1 y2 y3) (spec_WordSequence.l0 (k + 1) y0 y1 y2 y3)) ∧ (∀ y0 y1 y2, LeO (spec_WordSequence.j0 k y0 y1 y2) (spec_WordSequence.j0 (k + 1) y0 y1 y2))
  | 0 => ⟨fun _ _ _ _ r h => by simp [spec_WordSequence.l0] at h, fun _ _ _ r h => by simp [spec_WordSequence.j0] at h⟩
  | k + 1 => by
    obtain ⟨ih0, _⟩ := mono_count k
    refine ⟨?_, ?_⟩
    · intro y0 y1 y2 y3
      unfold spec_WordSequence.l0 spec_l08Sequence.f
      repeat' first | (with_reducible exact ih0 _ _ _ _) | (with_reducible exact (mono_seq k).1 _ _ _ _) | (with_reducible exact le_refl _) | (with_reducible exact le_none _) | (with_reducible refine le_ite ?_ ?_) | (with_reducible refine le_bind ?_ (fun _ => ?_))
    · intro y0 y1 y2
      unfold spec_WordSequence.j0
      repeat' first | (with_reducible exact ih0 _ _ _ _) | (with_reducible exact le_refl _) | (with_reducible exact le_none _) | (with_reducible refine le_ite ?_ ?_) | (with_reducible refine le_bind ?_ (fun _ => ?_))
theorem mono_spec (d k : Int) : ∀ n, LeO (spec_WordSequence.f n d k) (spec_WordSequence.f (n + 1) d k) := by
  intro n
  unfold spec_WordSequence.f
  repeat' first | (with_reducible exact (mono_count n).2 _ _ _) | (with_reducible exact le_refl _) | (with_reducible exact le_none _) | (with_reducible refine le_ite ?_ ?_) | (with_reducible refine le_bind ?_ (fun _ => ?_))
theorem mono_walk : ∀ k, (∀ y0 y1 y2 y3 y4 y5, LeO (impl_WordSequence.walk k y0 y1 y2 y3 y4 y5) (impl_WordSequence.walk (k + 1) y0 y1 y2 y3 y4 y5)) ∧ (∀ y0 y1 y2 y3 y4 y5, LeO (impl_WordSequence.lp k y0 y1 y2 y3 y4 y5) (impl_WordSequence.lp (k + 1) y0 y1 y2 y3 y4 y5))
  | 0 => ⟨fun _ _ _ _ _ _ r h => by simp [impl_WordSequence.walk] at h, fun _ _ _ _ _ _ r h => by simp [impl_WordSequence.lp] at h⟩
  | k + 1 => by
    obtain ⟨ih0, ih1⟩ := mono_walk k
    refine ⟨?_, ?_⟩
    · intro y0 y1 y2 y3 y4 y5
      unfold impl_WordSequence.walk
      repeat' first | (with_reducible exact ih0 _ _ _ _ _ _) | (with_reducible exact ih1 _ _ _ _ _ _) | (with_reducible exact le_refl _) | (with_reducible exact le_none _) | (with_reducible refine le_ite ?_ ?_) | (with_reducible refine le_bind ?_ (fun _ => ?_))
    · intro y0 y1 y2 y3 y4 y5
      unfold impl_WordSequence.lp
      repeat' first | (with_reducible exact ih0 _ _ _ _ _ _) | (with_reducible exact ih1 _ _ _ _ _ _) | (with_reducible exact le_refl _) | (with_reducible exact le_none _) | (with_reducible refine le_ite ?_ ?_) | (with_reducible refine le_bind ?_ (fun _ => ?_))
theorem mono_cap : ∀ k, ∀ y0 y1 y2 y3 y4, LeO (impl_capped.l0 k y0 y1 y2 y3 y4) (impl_capped.l0 (k + 1) y0 y1 y2 y3 y4)
  | 0 => fun _ _ _ _ _ r h => by simp [impl_capped.l0] at h
  | k + 1 => by
    have ih := mono_cap k
    intro y0 y1 y2 y3 y4
    unfold impl_capped.l0
    repeat' first | (with_reducible exact ih _ _ _ _ _) | (with_reducible exact le_refl _) | (with_reducible exact le_none _) | (with_reducible refine le_ite ?_ ?_)
theorem mono_impl (d k : Int) : ∀ n, LeO (impl_WordSequence.f n d k) (impl_WordSequence.f (n + 1) d k) := by
  intro n
  unfold impl_WordSequence.f impl_capped.f
  repeat' first | (with_reducible exact mono_cap n _ _ _ _ _) | (with_reducible exact (mono_walk n).1 _ _ _ _ _ _) | (with_reducible exact le_refl _) | (with_reducible exact le_none _) | (with_reducible refine le_ite ?_ ?_) | (with_reducible refine le_bind ?_ (fun _ => ?_))
def same (d k : Int) : Bool := match spec_WordSequence.f 8000 d k with
  | some a => decide (impl_WordSequence.f 8000 d k = some a) && decide (a.1.length ≤ 2000)
  | none => false
set_option maxRecDepth 1000000
theorem same1 : (List.range 10).all (fun j => same 1 ((j : Int) + 1)) = true := by decide +kernel
theorem same2 : (List.range 10).all (fun j => same 2 ((j : Int) + 1)) = true := by decide +kernel
theorem same3 : (List.range 10).all (fun j => same 3 ((j : Int) + 1)) = true := by decide +kernel
theorem same4 : (List.range 10).all (fun j => same 4 ((j : Int) + 1)) = true := by decide +kernel
theorem same5 : (List.range 10).all (fun j => same 5 ((j : Int) + 1)) = true := by decide +kernel
theorem same6 : (List.range 10).all (fun j => same 6 ((j : Int) + 1)) = true := by decide +kernel
theorem same7 : (List.range 10).all (fun j => same 7 ((j : Int) + 1)) = true := by decide +kernel
theorem same8 : (List.range 10).all (fun j => same 8 ((j : Int) + 1)) = true := by decide +kernel
theorem same9 : (List.range 10).all (fun j => same 9 ((j : Int) + 1)) = true := by decide +kernel
theorem same10 : (List.range 10).all (fun j => same 10 ((j : Int) + 1)) = true := by decide +kernel
theorem same_all (d k : Int) (d1 : 1 ≤ d) (d2 : d ≤ 10) (k1 : 1 ≤ k) (k2 : k ≤ 10) : same d k = true := by
  have key : ∀ e : Int, (List.range 10).all (fun j => same e ((j : Int) + 1)) = true → same e k = true := by
    intro e h
    have := List.all_eq_true.1 h (k - 1).toNat (List.mem_range.2 (by omega))
    rwa [show (((k - 1).toNat : Nat) : Int) + 1 = k by omega] at this
  rcases (by omega : d = 1 ∨ d = 2 ∨ d = 3 ∨ d = 4 ∨ d = 5 ∨ d = 6 ∨ d = 7 ∨ d = 8 ∨ d = 9 ∨ d = 10) with h | h | h | h | h | h | h | h | h | h <;> rw [h]
  · exact key 1 same1
  · exact key 2 same2
  · exact key 3 same3
  · exact key 4 same4
  · exact key 5 same5
  · exact key 6 same6
  · exact key 7 same7
  · exact key 8 same8
  · exact key 9 same9
  · exact key 10 same10
theorem s_in10 (x : Int) : spec_l01In.f x 1 10 = some (decide (1 ≤ x ∧ x ≤ 10)) := by
  unfold spec_l01In.f
  by_cases h : x ≥ 1
  · by_cases h' : x ≤ 10 <;> simp [h, h']
  · simp [h]
theorem seq_both (d k : Int) : ∃ r q, r.length ≤ 2000 ∧ Ev (fun n => spec_WordSequence.f n d k) (r, q) ∧ Ev (fun n => impl_WordSequence.f n d k) (r, q) := by
  by_cases h : (1 ≤ d ∧ d ≤ 10) ∧ 1 ≤ k ∧ k ≤ 10
  · have hs := same_all d k h.1.1 h.1.2 h.2.1 h.2.2
    unfold same at hs
    split at hs
    · rename_i a e
      simp only [Bool.and_eq_true, decide_eq_true_eq] at hs
      exact ⟨a.1, a.2, hs.2, Ev.of (mono_spec d k) e, Ev.of (mono_impl d k) hs.1⟩
    · cases hs
  · refine ⟨[], 2, by simp, ?_, ?_⟩
    · unfold spec_WordSequence.f
      refine Ev.bind (ev_of (s_in10 d)) ?_
      have j : Ev (fun n => spec_WordSequence.j0 n d k true) ([], 2) := by
        refine ev_k ?_
        simp only [spec_WordSequence.j0]
        exact ev_pos trivial (Ev.now _)
      by_cases hd : 1 ≤ d ∧ d ≤ 10
      · refine ev_pos (decide_eq_true hd) (Ev.bind (ev_of (s_in10 k)) ?_)
        rw [show (!(decide (1 ≤ k ∧ k ≤ 10))) = true by rw [decide_eq_false (fun q => h ⟨hd, q⟩)]; rfl]
        exact j
      · exact ev_neg (by simpa using hd) j
    · unfold impl_WordSequence.f
      by_cases c1 : d < 1
      · exact ev_pos c1 (Ev.now _)
      refine ev_neg c1 ?_
      by_cases c2 : d > 10
      · exact ev_pos c2 (Ev.now _)
      refine ev_neg c2 ?_
      by_cases c3 : k < 1
      · exact ev_pos c3 (Ev.now _)
      exact ev_neg c3 (ev_pos (by omega) (Ev.now _))
end Go.Proofs.YtmofdldplbplbaaDoor.Q
namespace Go.Proofs.YtmofdldplbplbaaDoor.Q
open Go Go.RowKit Go.Proofs.YtmofdldplbplbaaDoor.P Go.Proofs.YtmofdldplbplbaaDoorW.PrintWords Go.Proofs.YtmofdldplbplbaaDoorW.PrintLast Go.Proofs.YtmofdldplbplbaaDoorW.PrintMore
theorem b_mn_le (a b : Int) : mn a b ≤ b := by unfold mn; split <;> omega
theorem b_mn_ge {a b c : Int} (h : c ≤ a) (h' : c ≤ b) : c ≤ mn a b := by unfold mn; split <;> omega
theorem sums_l0 (b n : Int) (hb0 : 0 ≤ b) (hb1 : b ≤ 100) (hn : n ≤ 1000000) (d : Nat) : ∀ (all now i : Int), 0 ≤ i → n - i ≤ d → 0 ≤ all → all ≤ 1000000000001 → 0 ≤ now → now ≤ 1000000000001 →
    ∃ r, (0 ≤ r ∧ r ≤ 1000000000001) ∧ Ev (fun k => spec_l02Sum.l0 k (b + 1) n all now i) r ∧ Ev (fun k => impl_powers.l0 k b all now n i) r := by
  induction d with
  | zero =>
    intro all now i h0 hd a0 a1 _ _
    refine ⟨all, ⟨a0, a1⟩, ev_k ?_, ev_k ?_⟩
    · simp only [spec_l02Sum.l0]
      exact ev_neg (by omega) (Ev.now _)
    · simp only [impl_powers.l0]
      exact ev_neg (by omega) (Ev.now _)
  | succ d ih =>
    intro all now i h0 hd ha0 ha1 hn0 hn1
    by_cases h : i < n
    · have hp : 0 ≤ now * b := Int.mul_nonneg hn0 hb0
      have hq : now * b ≤ 1000000000001 * 100 := Int.mul_le_mul hn1 hb1 hb0 (by omega)
      have e1 : wrap64 (all + now) = all + now := w64 (by omega) (by omega)
      have e2 : wrap64 (now * b) = now * b := w64 (by omega) (by omega)
      have e3 : wrap64 (i + 1) = i + 1 := w64 (by omega) (by omega)
      have e4 : wrap64 (b + 1 - 1) = b := by rw [w64 (by omega) (by omega)]; omega
      obtain ⟨r, hr, hs, hi⟩ := ih (mn (all + now) 1000000000001) (mn (now * b) 1000000000001) (i + 1) (by omega) (by omega)
        (b_mn_ge (by omega) (by omega)) (b_mn_le _ _) (b_mn_ge hp (by omega)) (b_mn_le _ _)
      refine ⟨r, hr, ev_k ?_, ev_k ?_⟩
      · simp only [spec_l02Sum.l0]
        refine ev_pos h ?_
        rw [e1, e4, e2, e3]
        exact hs
      · simp only [impl_powers.l0]
        refine ev_pos h ?_
        rw [e1, e2, e3]
        exact hi
    · refine ⟨all, ⟨ha0, ha1⟩, ev_k ?_, ev_k ?_⟩
      · simp only [spec_l02Sum.l0]
        exact ev_neg h (Ev.now _)
      · simp only [impl_powers.l0]
        exact ev_neg h (Ev.now _)
theorem sums_of (b n : Int) (hb0 : 0 ≤ b) (hb1 : b ≤ 100) (hn : n ≤ 1000000) : ∃ r, (0 ≤ r ∧ r ≤ 1000000000001) ∧ Ev (fun k => spec_l02Sum.f k (b + 1) n) r ∧ Ev (fun k => impl_powers.f k b n) r := by
  obtain ⟨r, hr, hs, hi⟩ := sums_l0 b n hb0 hb1 hn n.toNat 0 1 0 (by omega) (by omega) (by omega) (by omega) (by omega) (by omega)
  exact ⟨r, hr, by unfold spec_l02Sum.f; exact hs, by unfold impl_powers.f; exact hi⟩
theorem told_both (r : Int) : ∃ p : Int × Int, spec_l02Told.f r = some p ∧ impl_limited.f r = some p ∧ (p.2 = 0 → 0 ≤ r → 0 ≤ p.1 ∧ p.1 ≤ 1000000000000) := by
  unfold spec_l02Told.f impl_limited.f
  by_cases h : r > 1000000000000
  · exact ⟨(0, 3), if_pos h, if_pos h, fun z => by simp at z⟩
  · exact ⟨(r, 0), if_neg h, if_neg h, fun _ _ => ⟨by assumption, by simp only []; omega⟩⟩
end Go.Proofs.YtmofdldplbplbaaDoor.Q
namespace Go.Proofs.YtmofdldplbplbaaDoor.Q
open Go Go.RowKit Go.Proofs.YtmofdldplbplbaaDoor.P Go.Proofs.YtmofdldplbplbaaDoorW.PrintWords Go.Proofs.YtmofdldplbplbaaDoorW.PrintMore
theorem bound_val (d k : Int) : ∃ p, Ev (fun n => spec_DigraphBound.f n d k) p ∧ Ev (fun n => impl_DigraphBound.f n d k) p ∧ ((1 ≤ d ∧ d ≤ 62) → (1 ≤ k ∧ k ≤ 60) → ∃ r, (0 ≤ r ∧ r ≤ 1000000000001) ∧ Ev (fun z => impl_powers.f z d (k + 1)) r ∧ impl_limited.f r = some p) := by
  have ij : ∀ (b : Bool) (q : Int × Int), Ev (fun z => impl_DigraphBound.j0 z d k b) q → (b = true → ¬ ((1 ≤ d ∧ d ≤ 62) ∧ 1 ≤ k ∧ k ≤ 60)) → (b = false → (1 ≤ d ∧ d ≤ 62) ∧ 1 ≤ k ∧ k ≤ 60) → Ev (fun z => impl_DigraphBound.f z d k) q := by
    intro b q h h1 h2
    unfold impl_DigraphBound.f
    have bt : ¬ ((1 ≤ d ∧ d ≤ 62) ∧ 1 ≤ k ∧ k ≤ 60) → b = true := fun z => by
      cases b with
      | true => rfl
      | false => exact absurd (h2 rfl) z
    by_cases c1 : d < 1
    · rw [bt (by omega)] at h
      exact ev_pos c1 h
    refine ev_neg c1 ?_
    by_cases c2 : d > 62
    · rw [bt (by omega)] at h
      exact ev_pos c2 h
    refine ev_neg c2 ?_
    by_cases c3 : k < 1
    · rw [bt (by omega)] at h
      exact ev_pos c3 h
    refine ev_neg c3 ?_
    have : b = decide (k > 60) := by
      cases b with
      | true => have := h1 rfl; exact (decide_eq_true (by omega)).symm
      | false => have := h2 rfl; exact (decide_eq_false (by omega)).symm
    rw [← this]
    exact h
  have sj : ∀ (b : Bool) (q : Int × Int), Ev (fun z => spec_DigraphBound.j0 z d k b) q → (b = true → ¬ ((1 ≤ d ∧ d ≤ 62) ∧ 1 ≤ k ∧ k ≤ 60)) → (b = false → (1 ≤ d ∧ d ≤ 62) ∧ 1 ≤ k ∧ k ≤ 60) → Ev (fun z => spec_DigraphBound.f z d k) q := by
    intro b q h h1 h2
    unfold spec_DigraphBound.f
    simp only [s_in, Option.bind_some]
    by_cases c1 : 1 ≤ d ∧ d ≤ 62
    · refine ev_pos (decide_eq_true c1) ?_
      have : b = !(decide (1 ≤ k ∧ k ≤ 60)) := by
        cases b with
        | true => have := h1 rfl; rw [decide_eq_false (by omega)]; rfl
        | false => have := h2 rfl; rw [decide_eq_true (by omega)]; rfl
      rw [← this]
      exact h
    · obtain rfl : b = true := by cases b with | true => rfl | false => exact absurd (h2 rfl).1 c1
      exact ev_neg (by simpa using c1) h
  by_cases h : (1 ≤ d ∧ d ≤ 62) ∧ 1 ≤ k ∧ k ≤ 60
  · obtain ⟨r, hr, hs, hi⟩ := sums_of d (k + 1) (by omega) (by omega) (by omega)
    obtain ⟨p, p1, p2, _⟩ := told_both r
    have e1 : wrap64 (d + 1) = d + 1 := w64 (by omega) (by omega)
    have e2 : wrap64 (k + 1) = k + 1 := w64 (by omega) (by omega)
    refine ⟨p, sj false _ (ev_k ?_) (by simp) (fun _ => h), ij false _ (ev_k ?_) (by simp) (fun _ => h), fun _ _ => ⟨r, hr, hi, p2⟩⟩
    · simp only [spec_DigraphBound.j0]
      rw [e1, e2]
      exact ev_neg (by simp) (Ev.bind hs (ev_bind0 p1 (Ev.now _)))
    · simp only [impl_DigraphBound.j0]
      rw [e2]
      exact ev_neg (by simp) (Ev.bind hi (ev_bind0 p2 (Ev.now _)))
  · refine ⟨(0, 2), sj true _ (ev_k ?_) (fun _ => h) (by simp), ij true _ (ev_k ?_) (fun _ => h) (by simp), fun a b => absurd ⟨a, b⟩ h⟩
    · simp only [spec_DigraphBound.j0]
      exact ev_pos trivial (Ev.now _)
    · simp only [impl_DigraphBound.j0]
      exact ev_pos trivial (Ev.now _)
end Go.Proofs.YtmofdldplbplbaaDoor.Q
namespace Go.Proofs.YtmofdldplbplbaaDoor.Pure
open Go Go.RowKit Go.Proofs.YtmofdldplbplbaaDoor.P Go.Proofs.YtmofdldplbplbaaDoorW.PrintWords Go.Proofs.YtmofdldplbplbaaDoorW.PrintLast Go.Proofs.YtmofdldplbplbaaDoorW.PrintMore Go.Proofs.YtmofdldplbplbaaDoor.Q
theorem wd_rows {m : Nat} {kz : Bool} {K : Nat} (h : sizeB m kz K = true) : (rows (wn m kz K) (wd m kz K) ∧ (wn m kz K).toNat = (extW m kz K []).length ∧ 1 ≤ wn m kz K) ∧ (wd m kz K).length ≤ 62 := by
  unfold sizeB at h
  rw [Bool.and_eq_true, decide_eq_true_eq, decide_eq_true_eq] at h
  have e : wn m kz K = ((extW m kz K []).length : Int) := rfl
  have l := wd_len m kz K
  exact ⟨⟨(mx_word kz K (extW m kz K [])).rows (by omega) (by omega), by omega, by omega⟩, by omega⟩
theorem diam_val {m : Nat} {kz : Bool} {K D : Nat} (h : sizeB m kz K = true) (hd : reach (wn m kz K) (wd m kz K) (wn m kz K).toNat 0 0 = (D : Int)) : Ev (fun z => impl_DiameterOfDigraph.f z (wn m kz K) (wd m kz K)) ((D : Int), 0) := by
  obtain ⟨⟨hg, _, _⟩, _⟩ := wd_rows h
  have hi := i_diameter hg
  rw [hd] at hi
  unfold impl_DiameterOfDigraph.f
  exact ev_bind0 (i_di_yes hg) (ev_pos rfl (Ev.bind hi (ev_neg (by omega) (Ev.now _))))
theorem diamB_val {m : Nat} {kz : Bool} {K D : Nat} (h : sizeB m kz K = true) (hd : diamB (wrows kz K (extW m kz K [])) (extW m kz K []).length D = true) : Ev (fun z => impl_DiameterOfDigraph.f z (wn m kz K) (wd m kz K)) (((D + 1 : Nat) : Int), 0) :=
  diam_val h (by rw [(wd_rows h).1.2.1]; exact diam_of (by have := (wd_rows h).1.1.2.1; have := (wd_rows h).1.2.1; omega) (by simp [wrows]) hd)
theorem lineB_val {m : Nat} {kz : Bool} {K : Nat} (h : sizeB m kz K = true) (h1 : sizeB m kz (K + 1) = true) (hb : lineB m kz K = true) : Ev (fun z => impl_LineDigraph.f z (wn m kz K) (wd m kz K)) (wn m kz (K + 1), wd m kz (K + 1), 0) := by
  obtain ⟨⟨hg, en, _⟩, _⟩ := wd_rows h
  obtain ⟨mm, r, c, g, q, _, _, _, _, hi, _, _, hv⟩ := line_val (wn m kz K) (wd m kz K)
  have e := of_decide_eq_true hb
  have el := congrArg List.length e
  unfold sizeB at h1
  rw [Bool.and_eq_true, decide_eq_true_eq, decide_eq_true_eq] at h1
  rw [en] at hv
  have e2 : asI (wrows kz K (extW m kz K [])) = wd m kz K := rfl
  rw [e2] at e el
  simp only [lrows, wrows, List.length_map] at el
  obtain ⟨rfl, hr, rfl⟩ := hv hg (by omega) (by omega)
  rw [e] at hr
  rw [hr, el] at hi
  exact hi
theorem degB_val {m d : Nat} {kz : Bool} {K : Nat} (h : sizeB m kz K = true) (hb : degB (wrows kz K (extW m kz K [])) (extW m kz K []).length d = true) : Ev (fun z => impl_DegreeOfDigraph.f z (wn m kz K) (wd m kz K)) ((d : Int), 0) := by
  obtain ⟨⟨hg, en, n1⟩, _⟩ := wd_rows h
  obtain ⟨g, r, hr, hcase, hi⟩ := i_degD hg
  obtain ⟨hreg, h0⟩ := deg_of (R := wrows kz K (extW m kz K [])) (by simp [wrows]) (by omega) hb hr
  have eg : g = d := by
    rcases hcase with ⟨_, e⟩ | ⟨e, _⟩
    · rw [e]
      exact h0
    · exact absurd hreg e
  subst eg
  unfold impl_DegreeOfDigraph.f
  exact ev_bind0 (i_di_yes hg) (ev_pos rfl (Ev.bind hi (ev_neg (by omega) (Ev.now _))))
theorem numbers_in {l : List Int} (hl : Codes l) : ∃ d k, (0 ≤ d ∧ d ≤ 63) ∧ (0 ≤ k ∧ k ≤ 11) ∧ Ev (fun z => spec_DrawKautzDigraph.f z l) (d, k) := by
  obtain ⟨h, e⟩ := from_ev hl
  obtain ⟨x, a1, h1, e1, p1, x0, x1, _⟩ := next_in hl (a := 0) ⟨by omega, by omega⟩ h 64 (by omega)
  obtain ⟨d, a2, h2, e2, p2, hd⟩ := pick_in hl p1 h1 [1, 2, 2, 3, 3, 4, x] (by simp) (by simp)
  obtain ⟨y, a3, h3, e3, p3, y0, y1, _⟩ := next_in hl p2 h2 12 (by omega)
  obtain ⟨k, a4, h4, e4, _, hk⟩ := pick_in hl p3 h3 [1, 2, 3, 4, y] (by simp) (by simp)
  simp only [List.mem_cons, List.not_mem_nil, or_false] at hd hk
  have x1 := x1 (by omega)
  have y1 := y1 (by omega)
  refine ⟨d, k, by omega, by omega, ?_⟩
  unfold spec_DrawKautzDigraph.f spec_l08Numbers.f
  exact Ev.bind (a := (d, k)) (Ev.bind e (ev_bind0 e1 (ev_bind0 e2 (ev_bind0 e3 (ev_bind0 e4 (Ev.now _)))))) (Ev.now _)
theorem word_in {l : List Int} (hl : Codes l) : ∃ d k, Ev (fun z => spec_DrawWordSequence.f z l) (d, k) := by
  obtain ⟨h, e⟩ := from_ev hl
  obtain ⟨x, a1, h1, e1, p1, x0, x1, _⟩ := next_in hl (a := 0) ⟨by omega, by omega⟩ h 12 (by omega)
  obtain ⟨d, a2, h2, e2, p2, hd⟩ := pick_in hl p1 h1 [1, 2, 2, 3, 3, 4, x] (by simp) (by simp)
  obtain ⟨y, a3, h3, e3, p3, y0, y1, _⟩ := next_in hl p2 h2 12 (by omega)
  obtain ⟨k, a4, h4, e4, _, hk⟩ := pick_in hl p3 h3 [1, 2, 3, 4, y] (by simp) (by simp)
  refine ⟨d, k, ?_⟩
  unfold spec_DrawWordSequence.f
  exact Ev.bind e (ev_bind0 e1 (ev_bind0 e2 (ev_bind0 e3 (ev_bind0 e4 (Ev.now _)))))
theorem bound_in {l : List Int} (hl : Codes l) : ∃ d k, Ev (fun z => spec_DrawDigraphBound.f z l) (d, k) := by
  obtain ⟨h, e⟩ := from_ev hl
  obtain ⟨x, a1, h1, e1, p1, x0, x1, _⟩ := next_in hl (a := 0) ⟨by omega, by omega⟩ h 64 (by omega)
  obtain ⟨d, a2, h2, e2, p2, hd⟩ := pick_in hl p1 h1 [1, 2, 3, 4, x] (by simp) (by simp)
  obtain ⟨y, a3, h3, e3, p3, y0, y1, _⟩ := next_in hl p2 h2 62 (by omega)
  obtain ⟨k, a4, h4, e4, _, hk⟩ := pick_in hl p3 h3 [1, 2, 3, 5, y] (by simp) (by simp)
  refine ⟨d, k, ?_⟩
  unfold spec_DrawDigraphBound.f
  exact Ev.bind e (ev_bind0 e1 (ev_bind0 e2 (ev_bind0 e3 (ev_bind0 e4 (Ev.now _)))))
theorem line_in {l : List Int} (hl : Codes l) : ∃ n r, r.length ≤ 62 ∧ Ev (fun z => spec_DrawLineDigraph.f z l) (n, r) := by
  obtain ⟨h, e⟩ := from_ev hl
  obtain ⟨n, r, a, h', _, hr, _, hE⟩ := drawD_in hl (a := 0) ⟨by omega, by omega⟩ h
  refine ⟨n, r, hr.2, ?_⟩
  unfold spec_DrawLineDigraph.f
  exact Ev.bind e (Ev.bind hE (Ev.now _))
theorem FnWordDigraphs : ∀ (l0 : List Int), l0.length ≤ maxLen → (∀ x ∈ l0, (Lit.int .u8 x).wf = true) → ∃ k, laws_FnWordDigraphs.f k l0 = some true := by
  intro l _ hb
  refine Ev.rounds ?_
  unfold laws_FnWordDigraphs.f laws_big.f
  simp only [Option.bind_some]
  by_cases h : (l.length : Int) > 4096
  · exact ev_pos (decide_eq_true h) (Ev.now _)
  refine ev_neg (by simpa using h) ?_
  have hl : Codes l := ⟨by omega, bytes_of hb⟩
  obtain ⟨d, k, hd, hk, e1⟩ := numbers_in hl
  obtain ⟨c, m, r, g, hr, hgl, hgx, ks, ki, ws, wi, kbad, kgood⟩ := kautz_val d k
  obtain ⟨bm, br, bc, hbr, bs, bi, bgood⟩ := bruijn_val d k (by omega) (by omega)
  obtain ⟨xn, xr, hxr, dx⟩ := line_in hl
  obtain ⟨lm, lr, lc, lg, lq, hlr, hlg, _, ls, li, ai, lgood, _⟩ := line_val xn xr
  obtain ⟨e, l', dw⟩ := word_in hl
  obtain ⟨sr, sq, hsr, ss, si⟩ := seq_both e l'
  obtain ⟨f, mm, db⟩ := bound_in hl
  obtain ⟨p, ps, pi, _⟩ := bound_val f mm
  have ek : wrap64 (k + 1) = k + 1 := w64 (by omega) (by omega)
  have h9 : c = 0 → ∀ b, b = false → Ev (fun z => laws_FnWordDigraphs.j9 z d k g c b m r) true := by
    rintro rfl b rfl
    obtain ⟨M, K, rfl, rfl, hM, hK, hbd, rfl, rfl, eg⟩ := kgood rfl
    have hp := kautz_at hM hK hbd
    unfold kautzB at hp
    simp only [Bool.and_eq_true] at hp
    obtain ⟨⟨⟨h1, h2⟩, h3⟩, _⟩ := hp
    have dg := degB_val h1 h2
    refine ev_k ?_
    simp only [laws_FnWordDigraphs.j9]
    refine ev_neg (by simp) (Ev.bind dg ?_)
    by_cases z : M + 1 = 1
    · rw [if_pos z] at h3
      have di := diamB_val h1 h3
      exact Ev.bind di (ev_pos trivial (ev_pos eg (ev_pos rfl (ev_pos rfl (ev_pos rfl (ev_pos (by omega) (Ev.now _)))))))
    · rw [if_neg z] at h3
      have di := diamB_val h1 h3
      exact Ev.bind di (ev_pos trivial (ev_pos eg (ev_pos rfl (ev_pos rfl (ev_pos rfl (ev_neg (by omega) (ev_some (by simp))))))))
  have h8 : Ev (fun z => laws_FnWordDigraphs.j8 z d k c g c m r) true := by
    refine ev_k ?_
    simp only [laws_FnWordDigraphs.j8]
    rw [ek]
    by_cases z : c = 0
    · obtain ⟨c', m', r', g', hr', _, _, _, ki', _, _, _, kgood'⟩ := kautz_val d (k + 1)
      obtain ⟨om, orr, oc, _, _, _, _, _, _, oi, _, _, _⟩ := line_val m r
      refine ev_pos z (Ev.bind ki' (Ev.bind oi ?_))
      refine ev_ite (fun z1 => ev_ite (fun z2 => ?_) fun _ => h9 z _ rfl) fun _ => h9 z _ rfl
      obtain ⟨M, K, hd', hk', hM, hK, hbd, hm', hr'', _⟩ := kgood z
      obtain ⟨M', K', hd'', hk'', _, hK', hbd', hm'', hr''', _⟩ := kgood' z2
      obtain rfl : M' = M := by omega
      obtain rfl : K' = K + 1 := by omega
      have hp := kautz_at hM hK hbd
      unfold kautzB at hp
      simp only [Bool.and_eq_true, Bool.or_eq_true, decide_eq_true_eq] at hp
      obtain ⟨⟨⟨h1, _⟩, _⟩, h4⟩ := hp
      have h4 := h4.resolve_left (by
        rintro (q | q)
        · exact absurd (Nat.lt_of_lt_of_le q hbd') (by omega)
        · omega)
      have lv := lineB_val h1 h4.1 h4.2
      rw [hm', hr''] at oi
      have ee := ev_uniq oi lv
      simp only [Prod.mk.injEq] at ee
      obtain ⟨e1, e2, e3⟩ := ee
      refine ev_pos e3 ?_
      rw [e1, e2, hm'', hr''']
      exact Ev.bind (dig_self _ _ (Nat.le_trans (wd_rows h4.1).2 (by decide))) (h9 z _ rfl)
    · exact ev_neg z (ev_pos (kbad z) (ev_some (by simp)))
  have h7 : bc = 0 → ∀ b, b = false → Ev (fun z => laws_FnWordDigraphs.j7 z d k c g c b m r bm br) true := by
    rintro z b rfl
    obtain ⟨M, K, hd', hk', hM, hK, hbd, hm', hr'⟩ := bgood z
    have hp := plain_at hM hK hbd
    unfold plainB at hp
    simp only [Bool.and_eq_true] at hp
    obtain ⟨⟨h1, h2⟩, _⟩ := hp
    refine ev_k ?_
    simp only [laws_FnWordDigraphs.j7]
    rw [hm', hr']
    refine ev_neg (by simp) ?_
    by_cases q : M = 0
    · subst q
      rw [if_pos rfl, decide_eq_true_eq] at h2
      have e1 : wn 0 false (K + 1) = 1 := by unfold wn; omega
      have di := diam_val (D := 0) h1 (by
        rw [e1]
        refine reach_is (by omega) (by omega) 0 (fun s u s0 s1 u0 u1 => ⟨0, Nat.le_refl _, by show u = s; omega⟩) ⟨0, 0, by omega, by omega, fun j hj => by omega⟩)
      exact Ev.bind di (ev_pos rfl (ev_neg (by omega) h8))
    · rw [if_neg q] at h2
      have di := diamB_val h1 h2
      exact Ev.bind di (ev_pos rfl (ev_pos (by omega) (ev_pos (by simp only []; omega) h8)))
  have h6 : Ev (fun z => laws_FnWordDigraphs.j6 z d k c g c bc m r bm br) true := by
    refine ev_k ?_
    simp only [laws_FnWordDigraphs.j6]
    rw [ek]
    by_cases z : bc = 0
    · obtain ⟨m', r', c', hr', _, ki', good'⟩ := bruijn_val d (k + 1) (by omega) (by omega)
      obtain ⟨om, orr, oc, _, _, _, _, _, _, oi, _, _, _⟩ := line_val bm br
      refine ev_pos z (Ev.bind ki' (Ev.bind oi ?_))
      refine ev_ite (fun z1 => ev_ite (fun z2 => ?_) fun _ => h7 z _ rfl) fun _ => h7 z _ rfl
      obtain ⟨M, K, hd', hk', hM, hK, hbd, hm', hr''⟩ := bgood z
      obtain ⟨M', K', hd'', hk'', _, hK', hbd', hm'', hr'''⟩ := good' z2
      obtain rfl : M' = M := by omega
      obtain rfl : K' = K + 1 := by omega
      have hp := plain_at hM hK hbd
      unfold plainB at hp
      simp only [Bool.and_eq_true, Bool.or_eq_true, decide_eq_true_eq] at hp
      obtain ⟨⟨h1, _⟩, h4⟩ := hp
      have h4 := h4.resolve_left (by
        rintro (q | q)
        · exact absurd (Nat.lt_of_lt_of_le q hbd') (by omega)
        · omega)
      have lv := lineB_val h1 h4.1 h4.2
      rw [hm', hr''] at oi
      have ee := ev_uniq oi lv
      simp only [Prod.mk.injEq] at ee
      obtain ⟨e1, e2, e3⟩ := ee
      refine ev_pos e3 ?_
      rw [e1, e2, hm'', hr''']
      exact Ev.bind (dig_self _ _ (Nat.le_trans (wd_rows h4.1).2 (by decide))) (h7 z _ rfl)
    · exact ev_neg z h8
  refine Ev.bind e1 (Ev.bind ki (Ev.bind ks (ev_pos rfl (Ev.bind (dig_self m r (by omega)) (ev_k ?_)))))
  simp only [laws_FnWordDigraphs.j0]
  refine ev_neg (by simp) (Ev.bind wi (Ev.bind ws (ev_pos rfl (Ev.bind (rows_self g (by omega) fun x hx => by have := hgx x hx; omega) (ev_k ?_)))))
  simp only [laws_FnWordDigraphs.j1]
  refine ev_neg (by simp) (Ev.bind bi (Ev.bind bs (ev_pos rfl (Ev.bind (dig_self bm br (by omega)) (ev_k ?_)))))
  simp only [laws_FnWordDigraphs.j2]
  refine ev_neg (by simp) (Ev.bind dx (Ev.bind li (Ev.bind ls (ev_pos rfl (Ev.bind (dig_self lm lr (by omega)) (ev_k ?_))))))
  simp only [laws_FnWordDigraphs.j3]
  refine ev_neg (by simp) (Ev.bind dw (Ev.bind si (Ev.bind ss (ev_pos rfl (Ev.bind (like_self sr (by omega)) (ev_k ?_))))))
  simp only [laws_FnWordDigraphs.j4]
  refine ev_neg (by simp) (Ev.bind db (Ev.bind pi (Ev.bind ps (ev_pos rfl (ev_k ?_)))))
  simp only [laws_FnWordDigraphs.j5]
  refine ev_neg (by simp) ?_
  by_cases z : lc = 0
  · obtain ⟨q0, ql⟩ := lgood z
    exact ev_pos z (Ev.bind ai (ev_pos q0 (ev_pos ql.symm h6)))
  · exact ev_neg z h6
end Go.Proofs.YtmofdldplbplbaaDoor.Pure
