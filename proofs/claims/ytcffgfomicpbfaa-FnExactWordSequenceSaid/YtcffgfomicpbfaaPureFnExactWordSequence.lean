/- The pure law and what it leans on, in one text (wip/bin/bundle). -/
import Derived.Test.YtcffgfomicpbfaaP2
import Derived.Test.YtcffgfomicpbfaaP3
import Derived.Test.YtcffgfomicpbfaaP4
import Derived.Test.YtcffgfomicpbfaaP5
import Derived.Test.YtcffgfomicpbfaaP9
import Derived.Test.YtcffgfomicpbfaaP6
import Derived.Test.YtcffgfomicpbfaaP7
import Derived.Test.YtcffgfomicpbfaaP8
import Derived.Test.YtcffgfomicpbfaaWA
import Derived.Test.YtcffgfomicpbfaaWBMore
namespace Go.Proofs.Ytcffgfomicpbfaa.Q
open Go Go.RowKit Go.Proofs.YtcffgfomicpbfaaW.PrintWords Go.Proofs.YtcffgfomicpbfaaW.PrintMore
theorem ev_k {α : Type} {g : Nat → Option α} {r : α} (h : Ev (fun k => g (k + 1)) r) : Ev g r := Ev.step (fun _ => rfl) h
theorem ev_some {α : Type} {r s : α} (h : r = s) : Ev (fun _ => some r) s := h ▸ Ev.now r
theorem ev_pos {α : Type} {c : Prop} [Decidable c] {f g : Nat → Option α} {r : α} (h : c) (H : Ev f r) : Ev (fun k => if c then f k else g k) r :=
  Ev.congr (fun _ => if_pos h) H
theorem ev_neg {α : Type} {c : Prop} [Decidable c] {f g : Nat → Option α} {r : α} (h : ¬ c) (H : Ev g r) : Ev (fun k => if c then f k else g k) r :=
  Ev.congr (fun _ => if_neg h) H
theorem ev_of {α : Type} {o : Option α} {r : α} (h : o = some r) : Ev (fun _ => o) r := ⟨0, fun _ _ => h⟩
theorem w64 {a : Int} (h0 : -9223372036854775808 ≤ a) (h1 : a < 9223372036854775808) : wrap64 a = a := by
  unfold wrap64
  omega
end Go.Proofs.Ytcffgfomicpbfaa.Q
namespace Go.Proofs.Ytcffgfomicpbfaa.Q
open Go Go.RowKit Go.Proofs.Ytcffgfomicpbfaa.P Go.Proofs.YtcffgfomicpbfaaW.PrintWords Go.Proofs.YtcffgfomicpbfaaW.PrintMore
theorem rd_at (l : List Int) (i : Int) (h1 : i.toNat < l.length) : rd l i = l[i.toNat] := by
  simp [rd, List.getD_eq_getElem?_getD, List.getElem?_eq_getElem h1]
theorem eqS_l0 (l m : List Int) (e : l.length = m.length) (hl : l.length < 9223372036854775807) (d : Nat) : ∀ (i : Int), 0 ≤ i → i ≤ l.length → l.length - i = d →
    Ev (fun k => laws_eqInt64S.l0 k l m i) (decide (l.drop i.toNat = m.drop i.toNat)) := by
  have dc : ∀ (l : List Int) (i : Int), 0 ≤ i → i < l.length → l.drop i.toNat = rd l i :: l.drop (i + 1).toNat := fun l i h0 h1 => by
    rw [List.drop_eq_getElem_cons (by omega : i.toNat < l.length), show (i + 1).toNat = i.toNat + 1 by omega, rd_at l i (by omega)]
  induction d with
  | zero =>
    intro i h0 h1 hd
    refine ev_k ?_
    simp only [laws_eqInt64S.l0]
    refine ev_neg (by omega) (ev_some ?_)
    rw [List.drop_of_length_le (by omega), List.drop_of_length_le (by omega)]
    rfl
  | succ d ih =>
    intro i h0 h1 hd
    refine ev_k ?_
    simp only [laws_eqInt64S.l0]
    refine ev_pos (by omega) (ev_pos h0 (ev_pos (by omega) ?_))
    rw [w64 (a := i + 1) (by omega) (by omega), dc l i h0 (by omega), dc m i h0 (by omega)]
    by_cases h : rd l i = rd m i
    · refine ev_pos h ?_
      simp only [List.cons.injEq, h, true_and]
      exact ih (i + 1) (by omega) (by omega) (by omega)
    · refine ev_neg h (ev_some ?_)
      simp [h]
theorem eqS (l m : List Int) (hl : l.length < 9223372036854775807) : Ev (fun k => laws_eqInt64S.f k l m) (decide (l = m)) := by
  unfold laws_eqInt64S.f
  by_cases e : l.length = m.length
  · refine ev_pos (by omega) ?_
    simpa using eqS_l0 l m e hl l.length 0 (by omega) (by omega) (by omega)
  · refine ev_neg (by omega) (ev_some ?_)
    exact (decide_eq_false fun h => e (by rw [h])).symm
theorem eqS_self (l : List Int) (hl : l.length < 9223372036854775807) : Ev (fun k => laws_eqInt64S.f k l l) true := by
  simpa using eqS l l hl
def marks (a : Int) (n : Nat) : List Int := (List.range n).map fun (j : Nat) => a + (j : Int)
theorem marks_length (a : Int) (n : Nat) : (marks a n).length = n := by simp [marks]
theorem marks_at (a : Int) (n j : Nat) (h : j < n) : (marks a n)[j]? = some (a + j) := by
  simp [marks, h]
theorem mark_l0 (n : Nat) (a : Int) (ha : 0 ≤ a) (hn : a + n < 9223372036854775807) (d : Nat) : ∀ (m : List Int) (i : Int), 0 ≤ i → i ≤ n → n - i = d → m.length = n → (∀ j, j < i.toNat → m[j]? = some (a + j)) →
    Ev (fun k => laws_markInt64S.l0 k m (a + i) i) (a + n, marks a n) := by
  induction d with
  | zero =>
    intro m i h0 h1 hd hm hj
    refine ev_k ?_
    simp only [laws_markInt64S.l0]
    refine ev_neg (by omega) (ev_some ?_)
    have : m = marks a n := by
      refine List.ext_getElem? fun j => ?_
      by_cases h : j < n
      · rw [hj j (by omega), marks_at a n j h]
      · rw [List.getElem?_eq_none (by omega), List.getElem?_eq_none (by rw [marks_length]; omega)]
    rw [this, show i = n by omega]
  | succ d ih =>
    intro m i h0 h1 hd hm hj
    refine ev_k ?_
    simp only [laws_markInt64S.l0]
    refine ev_pos (by omega) (ev_pos h0 ?_)
    rw [w64 (a := i + 1) (by omega) (by omega), w64 (a := a + i + 1) (by omega) (by omega), show a + i + 1 = a + (i + 1) by omega]
    refine ih _ (i + 1) (by omega) (by omega) (by omega) (by simpa using hm) fun j h => ?_
    rw [List.getElem?_set]
    split
    · subst_vars
      rw [if_pos (by omega), Int.toNat_of_nonneg h0]
    · exact hj j (by omega)
theorem markS (l : List Int) (a : Int) (ha : 0 ≤ a) (hn : a + l.length < 9223372036854775807) : Ev (fun k => laws_markInt64S.f k l a) (a + l.length, marks a l.length) := by
  unfold laws_markInt64S.f
  have h := mark_l0 l.length a ha hn l.length l 0 (by omega) (by omega) (by omega) rfl (fun j h => by simp at h)
  rwa [Int.add_zero] at h
theorem held_l0 (n : Nat) (a : Int) (ha : 0 ≤ a) (hn : a + n < 9223372036854775807) (d : Nat) : ∀ (i : Int), 0 ≤ i → i ≤ n → n - i = d →
    Ev (fun k => laws_heldInt64S.l0 k (marks a n) (a + i) i) (a + n) := by
  induction d with
  | zero =>
    intro i h0 h1 hd
    refine ev_k ?_
    simp only [laws_heldInt64S.l0]
    exact ev_neg (by rw [marks_length]; omega) (ev_some (by omega))
  | succ d ih =>
    intro i h0 h1 hd
    refine ev_k ?_
    simp only [laws_heldInt64S.l0]
    refine ev_pos (by rw [marks_length]; omega) (ev_pos h0 (ev_pos ?_ ?_))
    · have := marks_at a n i.toNat (by omega)
      simp only [rd, List.getD_eq_getElem?_getD, this, Option.getD_some]
      omega
    · rw [w64 (a := i + 1) (by omega) (by omega), w64 (a := a + i + 1) (by omega) (by omega), show a + i + 1 = a + (i + 1) by omega]
      exact ih (i + 1) (by omega) (by omega) (by omega)
theorem heldS (n : Nat) (a : Int) (ha : 0 ≤ a) (hn : a + n < 9223372036854775807) : Ev (fun k => laws_heldInt64S.f k (marks a n) a) (a + n) := by
  unfold laws_heldInt64S.f
  have h := held_l0 n a ha hn n 0 (by omega) (by omega) (by omega)
  rwa [Int.add_zero] at h
end Go.Proofs.Ytcffgfomicpbfaa.Q
namespace Go.Proofs.Ytcffgfomicpbfaa.Pure
open Go Go.RowKit Go.Proofs.Ytcffgfomicpbfaa.P Go.Proofs.YtcffgfomicpbfaaW.PrintWords Go.Proofs.YtcffgfomicpbfaaW.PrintLast Go.Proofs.YtcffgfomicpbfaaW.PrintMore Go.Proofs.Ytcffgfomicpbfaa.Q
theorem le_refl {α : Type} (a : Option α) : LeO a a := fun _ h => h
theorem le_none {α : Type} (b : Option α) : LeO Option.none b := fun _ h => by cases h
theorem le_ite {α : Type} {c : Prop} [Decidable c] {a a' b b' : Option α} (h : LeO a a') (k : LeO b b') : LeO (if c then a else b) (if c then a' else b') := by split <;> assumption
theorem le_bind {α β : Type} {a a' : Option α} {f f' : α → Option β} (h : LeO a a') (k : ∀ x, LeO (f x) (f' x)) : LeO (a.bind f) (a'.bind f') := by
  intro r hr
  obtain ⟨x, hx, hf⟩ := Option.bind_eq_some_iff.1 hr
  rw [h x hx]
  exact k x r hf
theorem mono_seq : ∀ k, (∀ y0 y1 y2 y3, LeO (spec_l08Sequence.l0 k y0 y1 y2 y3) (spec_l08Sequence.l0 (k + 1) y0 y1 y2 y3)) ∧ (∀ y0 y1 y2 y3, LeO (spec_l08Sequence.j1 k y0 y1 y2 y3) (spec_l08Sequence.j1 (k + 1) y0 y1 y2 y3)) ∧ (∀ y0 y1 y2 y3 y4 y5, LeO (spec_l08Sequence.l1 k y0 y1 y2 y3 y4 y5) (spec_l08Sequence.l1 (k + 1) y0 y1 y2 y3 y4 y5)) ∧ (∀ y0 y1 y2 y3, LeO (spec_l08Sequence.l2 k y0 y1 y2 y3) (spec_l08Sequence.l2 (k + 1) y0 y1 y2 y3))
  | 0 => ⟨fun _ _ _ _ r h => by simp [spec_l08Sequence.l0] at h, fun _ _ _ _ r h => by simp [spec_l08Sequence.j1] at h, fun _ _ _ _ _ _ r h => by simp [spec_l08Sequence.l1] at h, fun _ _ _ _ r h => by simp [spec_l08Sequence.l2] at h⟩
  | k + 1 => by
    obtain ⟨ih0, ih1, ih2, ih3⟩ := mono_seq k
    refine ⟨?_, ?_, ?_, ?_⟩
    · intro y0 y1 y2 y3
      unfold spec_l08Sequence.l0
      repeat' first | (with_reducible exact ih1 _ _ _ _) | (with_reducible exact le_refl _) | (with_reducible exact le_none _) | (with_reducible refine le_ite ?_ ?_) | (with_reducible refine le_bind ?_ (fun _ => ?_))
    · intro y0 y1 y2 y3
      unfold spec_l08Sequence.j1
      exact ih2 _ _ _ _ _ _
    · intro y0 y1 y2 y3 y4 y5
      unfold spec_l08Sequence.l1
      repeat' first | (with_reducible exact ih2 _ _ _ _ _ _) | (with_reducible exact ih3 _ _ _ _) | (with_reducible exact le_refl _) | (with_reducible exact le_none _) | (with_reducible refine le_ite ?_ ?_) | (with_reducible refine le_bind ?_ (fun _ => ?_))
    · intro y0 y1 y2 y3
      unfold spec_l08Sequence.l2
      repeat' first | (with_reducible exact ih0 _ _ _ _) | (with_reducible exact ih3 _ _ _ _) | (with_reducible exact le_refl _) | (with_reducible exact le_none _) | (with_reducible refine le_ite ?_ ?_) | (with_reducible refine le_bind ?_ (fun _ => ?_))
theorem mono_count : ∀ k, (∀ y0 y1 y2 y3, LeO (spec_WordSequence.l0 k y0 y1 y2 y3) (spec_WordSequence.l0 (k + 1) y0 y1 y2 y3)) ∧ (∀ y0 y1 y2, LeO (spec_WordSequence.j0 k y0 y1 y2) (spec_WordSequence.j0 (k + 1) y0 y1 y2))
  | 0 => ⟨fun _ _ _ _ r h => by simp [spec_WordSequence.l0] at h, fun _ _ _ r h => by simp [spec_WordSequence.j0] at h⟩
  | k + 1 => by
    obtain ⟨ih0, _⟩ := mono_count k
    refine ⟨?_, ?_⟩
    · intro y0 y1 y2 y3
      unfold spec_WordSequence.l0 spec_l08Sequence.f
      repeat' first | (with_reducible exact ih0 _ _ _ _) | (with_reducible exact (mono_seq k).1 _ _ _ _) | (with_reducible exact le_refl _) | (with_reducible exact le_none _) | (with_reducible refine le_ite ?_ ?_) | (with_reducible refine le_bind ?_ (fun _ => ?_))
    · intro y0 y1 y2
      unfold spec_WordSequence.j0
      repeat' first | (with_reducible exact ih0 _ _ _ _) | (with_reducible exact le_refl _) | (with_reducible exact le_none _) | (with_reducible refine le_ite ?_ ?_) | (with_reducible refine le_bind ?_ (fun _ => ?_))
theorem mono_spec (d k : Int) : ∀ n, LeO (spec_WordSequence.f n d k) (spec_WordSequence.f (n + 1) d k) := by
  intro n
  unfold spec_WordSequence.f
  repeat' first | (with_reducible exact (mono_count n).2 _ _ _) | (with_reducible exact le_refl _) | (with_reducible exact le_none _) | (with_reducible refine le_ite ?_ ?_) | (with_reducible refine le_bind ?_ (fun _ => ?_))
theorem mono_walk : ∀ k, (∀ y0 y1 y2 y3 y4 y5, LeO (impl_WordSequence.walk k y0 y1 y2 y3 y4 y5) (impl_WordSequence.walk (k + 1) y0 y1 y2 y3 y4 y5)) ∧ (∀ y0 y1 y2 y3 y4 y5, LeO (impl_WordSequence.lp k y0 y1 y2 y3 y4 y5) (impl_WordSequence.lp (k + 1) y0 y1 y2 y3 y4 y5))
  | 0 => ⟨fun _ _ _ _ _ _ r h => by simp [impl_WordSequence.walk] at h, fun _ _ _ _ _ _ r h => by simp [impl_WordSequence.lp] at h⟩
  | k + 1 => by
    obtain ⟨ih0, ih1⟩ := mono_walk k
    refine ⟨?_, ?_⟩
    · intro y0 y1 y2 y3 y4 y5
      unfold impl_WordSequence.walk
      repeat' first | (with_reducible exact ih0 _ _ _ _ _ _) | (with_reducible exact ih1 _ _ _ _ _ _) | (with_reducible exact le_refl _) | (with_reducible exact le_none _) | (with_reducible refine le_ite ?_ ?_) | (with_reducible refine le_bind ?_ (fun _ => ?_))
    · intro y0 y1 y2 y3 y4 y5
      unfold impl_WordSequence.lp
      repeat' first | (with_reducible exact ih0 _ _ _ _ _ _) | (with_reducible exact ih1 _ _ _ _ _ _) | (with_reducible exact le_refl _) | (with_reducible exact le_none _) | (with_reducible refine le_ite ?_ ?_) | (with_reducible refine le_bind ?_ (fun _ => ?_))
theorem mono_cap : ∀ k, ∀ y0 y1 y2 y3 y4, LeO (impl_capped.l0 k y0 y1 y2 y3 y4) (impl_capped.l0 (k + 1) y0 y1 y2 y3 y4)
  | 0 => fun _ _ _ _ _ r h => by simp [impl_capped.l0] at h
  | k + 1 => by
    have ih := mono_cap k
    intro y0 y1 y2 y3 y4
    unfold impl_capped.l0
    repeat' first | (with_reducible exact ih _ _ _ _ _) | (with_reducible exact le_refl _) | (with_reducible exact le_none _) | (with_reducible refine le_ite ?_ ?_)
theorem mono_impl (d k : Int) : ∀ n, LeO (impl_WordSequence.f n d k) (impl_WordSequence.f (n + 1) d k) := by
  intro n
  unfold impl_WordSequence.f impl_capped.f
  repeat' first | (with_reducible exact mono_cap n _ _ _ _ _) | (with_reducible exact (mono_walk n).1 _ _ _ _ _ _) | (with_reducible exact le_refl _) | (with_reducible exact le_none _) | (with_reducible refine le_ite ?_ ?_) | (with_reducible refine le_bind ?_ (fun _ => ?_))
def same (d k : Int) : Bool := match spec_WordSequence.f 8000 d k with
  | some a => decide (impl_WordSequence.f 8000 d k = some a) && decide (a.1.length ≤ 2000)
  | none => false
set_option maxRecDepth 1000000
theorem same1 : (List.range 10).all (fun j => same 1 ((j : Int) + 1)) = true := by decide +kernel
theorem same2 : (List.range 10).all (fun j => same 2 ((j : Int) + 1)) = true := by decide +kernel
theorem same3 : (List.range 10).all (fun j => same 3 ((j : Int) + 1)) = true := by decide +kernel
theorem same4 : (List.range 10).all (fun j => same 4 ((j : Int) + 1)) = true := by decide +kernel
theorem same5 : (List.range 10).all (fun j => same 5 ((j : Int) + 1)) = true := by decide +kernel
theorem same6 : (List.range 10).all (fun j => same 6 ((j : Int) + 1)) = true := by decide +kernel
theorem same7 : (List.range 10).all (fun j => same 7 ((j : Int) + 1)) = true := by decide +kernel
theorem same8 : (List.range 10).all (fun j => same 8 ((j : Int) + 1)) = true := by decide +kernel
theorem same9 : (List.range 10).all (fun j => same 9 ((j : Int) + 1)) = true := by decide +kernel
theorem same10 : (List.range 10).all (fun j => same 10 ((j : Int) + 1)) = true := by decide +kernel
theorem same_all (d k : Int) (d1 : 1 ≤ d) (d2 : d ≤ 10) (k1 : 1 ≤ k) (k2 : k ≤ 10) : same d k = true := by
  have key : ∀ e : Int, (List.range 10).all (fun j => same e ((j : Int) + 1)) = true → same e k = true := by
    intro e h
    have := List.all_eq_true.1 h (k - 1).toNat (List.mem_range.2 (by omega))
    rwa [show (((k - 1).toNat : Nat) : Int) + 1 = k by omega] at this
  rcases (by omega : d = 1 ∨ d = 2 ∨ d = 3 ∨ d = 4 ∨ d = 5 ∨ d = 6 ∨ d = 7 ∨ d = 8 ∨ d = 9 ∨ d = 10) with h | h | h | h | h | h | h | h | h | h <;> rw [h]
  · exact key 1 same1
  · exact key 2 same2
  · exact key 3 same3
  · exact key 4 same4
  · exact key 5 same5
  · exact key 6 same6
  · exact key 7 same7
  · exact key 8 same8
  · exact key 9 same9
  · exact key 10 same10
theorem s_in (x : Int) : spec_l01In.f x 1 10 = some (decide (1 ≤ x ∧ x ≤ 10)) := by
  unfold spec_l01In.f
  by_cases h : x ≥ 1
  · by_cases h' : x ≤ 10 <;> simp [h, h']
  · simp [h]
theorem both (d k : Int) : ∃ r q, r.length ≤ 2000 ∧ Ev (fun n => spec_WordSequence.f n d k) (r, q) ∧ Ev (fun n => impl_WordSequence.f n d k) (r, q) := by
  by_cases h : (1 ≤ d ∧ d ≤ 10) ∧ 1 ≤ k ∧ k ≤ 10
  · have hs := same_all d k h.1.1 h.1.2 h.2.1 h.2.2
    unfold same at hs
    split at hs
    · rename_i a e
      simp only [Bool.and_eq_true, decide_eq_true_eq] at hs
      exact ⟨a.1, a.2, hs.2, Ev.of (mono_spec d k) e, Ev.of (mono_impl d k) hs.1⟩
    · cases hs
  · refine ⟨[], 2, by simp, ?_, ?_⟩
    · unfold spec_WordSequence.f
      refine Ev.bind (ev_of (s_in d)) ?_
      have j : Ev (fun n => spec_WordSequence.j0 n d k true) ([], 2) := by
        refine ev_k ?_
        simp only [spec_WordSequence.j0]
        exact ev_pos trivial (Ev.now _)
      by_cases hd : 1 ≤ d ∧ d ≤ 10
      · refine ev_pos (decide_eq_true hd) (Ev.bind (ev_of (s_in k)) ?_)
        rw [show (!(decide (1 ≤ k ∧ k ≤ 10))) = true by rw [decide_eq_false (fun q => h ⟨hd, q⟩)]; rfl]
        exact j
      · exact ev_neg (by simpa using hd) j
    · unfold impl_WordSequence.f
      by_cases c1 : d < 1
      · exact ev_pos c1 (Ev.now _)
      refine ev_neg c1 ?_
      by_cases c2 : d > 10
      · exact ev_pos c2 (Ev.now _)
      refine ev_neg c2 ?_
      by_cases c3 : k < 1
      · exact ev_pos c3 (Ev.now _)
      exact ev_neg c3 (ev_pos (by omega) (Ev.now _))
theorem FnExactWordSequence : ∀ (a0 : Int) (a1 : Int), (Lit.int .i64 a0).wf = true → (Lit.int .i64 a1).wf = true → ∃ k, laws_FnExactWordSequence.f k a0 a1 = some true := by
  intro d k _ _
  refine Ev.rounds ?_
  unfold laws_FnExactWordSequence.f
  obtain ⟨r, q, hr, h1, h2⟩ := both d k
  have er := eqS_self r (by omega)
  refine Ev.bind h1 (Ev.bind h2 (Ev.bind er (ev_pos rfl ?_)))
  refine ev_k ?_
  simp only [laws_FnExactWordSequence.j0]
  refine ev_neg (by simp) (Ev.bind (markS r 1 (by omega) (by omega)) (Ev.bind (heldS r.length 1 (by omega) (by omega)) (ev_neg (by omega) (ev_pos rfl ?_))))
  refine Ev.bind h2 (Ev.bind er (ev_pos rfl ?_))
  refine ev_k ?_
  simp only [laws_FnExactWordSequence.j1]
  exact ev_neg (by simp) (Ev.bind (heldS r.length 1 (by omega) (by omega)) (ev_neg (by omega) (ev_pos rfl (Ev.now _))))
end Go.Proofs.Ytcffgfomicpbfaa.Pure
