/- What the program's and the reference's first functions on graphs come to. -/
import Derived.Test.YtobkdanoipociaaDoorP15
import Derived.Test.YtobkdanoipociaaDoorP16
import Derived.Test.YtobkdanoipociaaDoorP20
import Derived.Test.YtobkdanoipociaaDoorQGraph
import Derived.Test.YtobkdanoipociaaDoorQInFn
import Derived.Test.YtobkdanoipociaaDoorQPop
namespace Go.Proofs.YtobkdanoipociaaDoor.Q
open Go Go.RowKit Go.Proofs.YtobkdanoipociaaDoor.P Go.Proofs.YtobkdanoipociaaDoorW.PrintWords Go.Proofs.YtobkdanoipociaaDoorW.PrintMore
set_option linter.unusedVariables false

theorem s_has (n : Int) (l : List Int) (v w : Int) (v0 : 0 ≤ v) (v1 : v < l.length) (w0 : 0 ≤ w) (w1 : w ≤ 63) : spec_l01Has.f n l v w = some (tb (rd l v) w) := by
  unfold spec_l01Has.f
  rw [if_pos v0, if_pos v1, wu64 w0 (by omega), if_pos w0, bit_is w0 w1]

section
variable {n : Int} {l : List Int} (n1 : 1 ≤ n) (n2 : n ≤ 62) (hn : (l.length : Int) = n)
include n1 n2 hn
/-- The reference's second look: the same both ways. -/
theorem s_is_l1 (d : Nat) : ∀ v : Int, 0 ≤ v → v ≤ n → n - v = d → Says (fun k => spec_l01Is.l1 k v n l) (∀ a, v ≤ a → a < n → ∀ b, 0 ≤ b → b < a → tb (rd l a) b = tb (rd l b) a) := by
  induction d with
  | zero =>
    intro v v0 v1 hd
    refine says_k ?_
    simp only [spec_l01Is.l1]
    exact says_neg (by omega) (says_true fun a _ _ => by omega)
  | succ d ih =>
    intro v v0 v1 hd
    have hv : v < n := by omega
    have inner : ∀ (e : Nat) (w : Int), 0 ≤ w → w ≤ v → v - w = e → Says (fun k => spec_l01Is.l2 k v w n l) ((∀ b, w ≤ b → b < v → tb (rd l v) b = tb (rd l b) v) ∧ ∀ a, v + 1 ≤ a → a < n → ∀ b, 0 ≤ b → b < a → tb (rd l a) b = tb (rd l b) a) := by
      intro e
      induction e with
      | zero =>
        intro w w0 w1 he
        refine says_k ?_
        simp only [spec_l01Is.l2]
        refine says_neg (by omega) ?_
        rw [w64 (a := v + 1) (by omega) (by omega)]
        exact says_iff ⟨fun h => h.2, fun h => ⟨fun b _ _ => by omega, h⟩⟩ (ih (v + 1) (by omega) (by omega) (by omega))
      | succ e ihe =>
        intro w w0 w1 he
        refine says_k ?_
        simp only [spec_l01Is.l2]
        refine says_pos (by omega) ?_
        rw [s_has n l v w v0 (by omega) w0 (by omega), s_has n l w v w0 (by omega) v0 (by omega)]
        simp only [Option.bind_some]
        by_cases h : tb (rd l v) w = tb (rd l w) v
        · refine says_neg (by simp [h]) ?_
          rw [w64 (a := w + 1) (by omega) (by omega)]
          exact says_iff ⟨fun z => ⟨fun b b0 b1 => z.1 b (by omega) b1, z.2⟩, fun z => ⟨fun b b0 b1 => if hb : b = w then by rw [hb]; exact h else z.1 b (by omega) b1, z.2⟩⟩ (ihe (w + 1) (by omega) (by omega) (by omega))
        · exact says_pos (by simp [h]) (says_false fun z => h (z.1 w (by omega) (by omega)))
    refine says_k ?_
    simp only [spec_l01Is.l1]
    exact says_pos hv (says_iff ⟨fun z => ⟨fun b b0 b1 => z v (by omega) hv b b0 b1, fun a a0 a1 => z a (by omega) a1⟩, fun z a a0 a1 b b0 b1 => if ha : a = v then by subst ha; exact z.1 b b0 b1 else z.2 a (by omega) a1 b b0 b1⟩ (inner v.toNat 0 (by omega) (by omega) (by omega)))
/-- Its first look: rows in their range, no loops. -/
theorem s_is_l0 (d : Nat) : ∀ v : Int, 0 ≤ v → v ≤ n → n - v = d → Says (fun k => spec_l01Is.l0 k v n l) ((∀ a, v ≤ a → a < n → (0 ≤ rd l a ∧ rd l a < 2 ^ n.toNat) ∧ tb (rd l a) a = false) ∧ ∀ a, 0 ≤ a → a < n → ∀ b, 0 ≤ b → b < a → tb (rd l a) b = tb (rd l b) a) := by
  have hp := two_pow_le (n := n) (by omega) n2
  induction d with
  | zero =>
    intro v v0 v1 hd
    refine says_k ?_
    simp only [spec_l01Is.l0]
    exact says_neg (by omega) (says_iff ⟨fun h => h.2, fun h => ⟨fun a _ _ => by omega, h⟩⟩ (s_is_l1 n1 n2 hn n.toNat 0 (by omega) (by omega) (by omega)))
  | succ d ih =>
    intro v v0 v1 hd
    refine says_k ?_
    simp only [spec_l01Is.l0]
    rw [wu64 (a := n) (by omega) (by omega), shl_one (by omega) n2, w64 (a := 2 ^ n.toNat - 1) (by omega) (by omega)]
    refine says_pos (by omega) (says_pos v0 (says_pos (by omega) (says_pos (by omega) ?_)))
    rw [s_in, s_has n l v v v0 (by omega) v0 (by omega)]
    simp only [Option.bind_some]
    by_cases h : 0 ≤ rd l v ∧ rd l v ≤ 2 ^ n.toNat - 1
    · refine says_pos (decide_eq_true h) ?_
      by_cases ht : tb (rd l v) v = true
      · exact says_pos ht (says_false fun z => by have := (z.1 v (by omega) (by omega)).2; rw [ht] at this; cases this)
      · refine says_neg ht ?_
        rw [w64 (a := v + 1) (by omega) (by omega)]
        refine says_iff ⟨fun z => ⟨fun a a0 a1 => z.1 a (by omega) a1, z.2⟩, fun z => ⟨fun a a0 a1 => if ha : a = v then ?_ else z.1 a (by omega) a1, z.2⟩⟩ (ih (v + 1) (by omega) (by omega) (by omega))
        subst ha
        exact ⟨by omega, by simpa using ht⟩
    · exact says_neg (by simpa using h) (says_false fun z => h (by have := (z.1 v (by omega) (by omega)).1; omega))
/-- The program's look at one row. -/
theorem i_is_l1 (v : Int) (v0 : 0 ≤ v) (v1 : v < n) (x : Int) (y3 y4 : Int) (y5 : List Int) (P : Prop) (hc : Says (fun k => impl_IsGraph.l0 k n y5 y3 (wrap64 (y4 + 1)) n l) P) (d : Nat) : ∀ w : Int, 0 ≤ w → w ≤ n → n - w = d →
    Says (fun k => impl_IsGraph.l1 k n v x y5 y3 y4 n w n l) ((∀ b, w ≤ b → b < n → tb x b = tb (rd l b) v) ∧ P) := by
  induction d with
  | zero =>
    intro w w0 w1 hd
    refine says_k ?_
    simp only [impl_IsGraph.l1]
    exact says_neg (by omega) (says_iff ⟨fun h => h.2, fun h => ⟨fun b _ _ => by omega, h⟩⟩ hc)
  | succ d ih =>
    intro w w0 w1 hd
    refine says_k ?_
    simp only [impl_IsGraph.l1]
    refine says_pos (by omega) (says_pos w0 (says_pos (by omega) (says_pos v0 ?_)))
    by_cases h : tb x w = tb (rd l w) v
    · refine says_pos ((bit_eq w0 (by omega) v0 (by omega)).2 h) ?_
      rw [w64 (a := w + 1) (by omega) (by omega)]
      exact says_iff ⟨fun z => ⟨fun b b0 b1 => z.1 b (by omega) b1, z.2⟩, fun z => ⟨fun b b0 b1 => if hb : b = w then by rw [hb]; exact h else z.1 b (by omega) b1, z.2⟩⟩ (ih (w + 1) (by omega) (by omega) (by omega))
    · exact says_neg (fun z => h ((bit_eq w0 (by omega) v0 (by omega)).1 z)) (says_false fun z => h (z.1 w (by omega) (by omega)))
theorem i_is_l0 (d : Nat) : ∀ v : Int, 0 ≤ v → v ≤ n → n - v = d → Says (fun k => impl_IsGraph.l0 k n l n v n l) (∀ a, v ≤ a → a < n → ((0 ≤ rd l a ∧ rd l a < 2 ^ n.toNat) ∧ tb (rd l a) a = false) ∧ ∀ b, 0 ≤ b → b < n → tb (rd l a) b = tb (rd l b) a) := by
  induction d with
  | zero =>
    intro v v0 v1 hd
    refine says_k ?_
    simp only [impl_IsGraph.l0]
    exact says_neg (by omega) (says_true fun a _ _ => by omega)
  | succ d ih =>
    intro v v0 v1 hd
    have hv : v < n := by omega
    have ih := ih (v + 1) (by omega) (by omega) (by omega)
    have bad : ∀ (P : Prop), ¬ P → Says (fun k => impl_IsGraph.j2 k n v (rd l v) l n v true n l) P := fun P hP => by
      refine says_k ?_
      simp only [impl_IsGraph.j2]
      exact says_pos trivial (says_false hP)
    refine says_k ?_
    simp only [impl_IsGraph.l0]
    refine says_pos hv (says_pos v0 (says_pos (by omega) ?_))
    by_cases h0 : rd l v < 0
    · exact says_pos h0 (bad _ fun z => by have := (z v (by omega) hv).1.1; omega)
    · refine says_neg h0 (says_pos (by omega) ?_)
      rw [shl_one (by omega) n2]
      by_cases h1 : rd l v ≥ 2 ^ n.toNat
      · exact says_pos h1 (bad _ fun z => by have := (z v (by omega) hv).1.1; omega)
      · refine says_neg h1 ?_
        rw [bit_is v0 (by omega)]
        cases ht : tb (rd l v) v with
        | true => exact bad _ fun z => by have := (z v (by omega) hv).1.2; rw [ht] at this; cases this
        | false =>
          refine says_k ?_
          simp only [impl_IsGraph.j2]
          refine says_neg (by decide) ?_
          refine says_iff ?_ (i_is_l1 n1 n2 hn v v0 hv (rd l v) n v l _ (by rw [w64 (a := v + 1) (by omega) (by omega)]; exact ih) n.toNat 0 (by omega) (by omega) (by omega))
          exact ⟨fun z => ⟨(z v (by omega) hv).2, fun a a0 a1 => z a (by omega) a1⟩, fun z a a0 a1 => if ha : a = v then by subst ha; exact ⟨⟨by omega, ht⟩, z.1⟩ else z.2 a (by omega) a1⟩
end

theorem s_is (n : Int) (l : List Int) : Says (fun k => spec_l01Is.f k n l) (isG n l) := by
  have bad : ¬ isG n l → Says (fun k => spec_l01Is.j0 k true n l) (isG n l) := fun h => by
    refine says_k ?_
    simp only [spec_l01Is.j0]
    exact says_pos trivial (says_false h)
  unfold spec_l01Is.f
  rw [s_in]
  simp only [Option.bind_some]
  by_cases h1 : 1 ≤ n ∧ n ≤ 62
  · refine says_pos (decide_eq_true h1) ?_
    by_cases h2 : (l.length : Int) = n
    · refine says_k ?_
      simp only [spec_l01Is.j0]
      refine says_neg (by simp [h2]) ?_
      refine says_iff ?_ (s_is_l0 h1.1 h1.2 h2 n.toNat 0 (by omega) (by omega) (by omega))
      constructor
      · exact fun ⟨⟨_, _, _, r⟩, lo, sy⟩ => ⟨fun a a0 a1 => ⟨r a a0 a1, lo a a0 a1⟩, fun a a0 a1 b b0 b1 => sy a b a0 a1 b0 (by omega)⟩
      · intro ⟨z, sy⟩
        refine ⟨⟨h1.1, h1.2, h2, fun a a0 a1 => (z a a0 a1).1⟩, fun a a0 a1 => (z a a0 a1).2, fun a b a0 a1 b0 b1 => ?_⟩
        rcases Int.lt_trichotomy a b with h | h | h
        · exact (sy b b0 b1 a a0 h).symm
        · rw [h]
        · exact sy a a0 a1 b b0 h
    · rw [show ((l.length : Int) != n) = true by simpa using h2]
      exact bad fun z => h2 z.1.2.2.1
  · exact says_neg (by simpa using h1) (bad fun z => h1 ⟨z.1.1, z.1.2.1⟩)
theorem i_is (n : Int) (l : List Int) : Says (fun k => impl_IsGraph.f k n l) (isG n l) := by
  have bad : ¬ isG n l → Says (fun k => impl_IsGraph.j0 k n true n l) (isG n l) := fun h => by
    refine says_k ?_
    simp only [impl_IsGraph.j0]
    exact says_pos trivial (says_false h)
  unfold impl_IsGraph.f
  by_cases h1 : n < 1
  · exact says_pos h1 (bad fun z => by have := z.1.1; omega)
  · refine says_neg h1 ?_
    by_cases h2 : n > 62
    · exact says_pos h2 (bad fun z => by have := z.1.2.1; omega)
    · refine says_neg h2 ?_
      by_cases h3 : (l.length : Int) = n
      · refine says_k ?_
        simp only [impl_IsGraph.j0]
        refine says_neg (by simp [h3]) ?_
        have := i_is_l0 (n := n) (l := l) (by omega) (by omega) h3 n.toNat 0 (by omega) (by omega) (by omega)
        rw [h3]
        refine says_iff ?_ this
        constructor
        · exact fun ⟨⟨_, _, _, r⟩, lo, sy⟩ a a0 a1 => ⟨⟨r a a0 a1, lo a a0 a1⟩, fun b b0 b1 => sy a b a0 a1 b0 b1⟩
        · exact fun z => ⟨⟨by omega, by omega, h3, fun a a0 a1 => (z a a0 a1).1.1⟩, fun a a0 a1 => (z a a0 a1).1.2, fun a b a0 a1 b0 b1 => (z a a0 a1).2 b b0 b1⟩
      · rw [show ((l.length : Int) != n) = true by simpa using h3]
        exact bad fun z => h3 z.1.2.2.1
end Go.Proofs.YtobkdanoipociaaDoor.Q
