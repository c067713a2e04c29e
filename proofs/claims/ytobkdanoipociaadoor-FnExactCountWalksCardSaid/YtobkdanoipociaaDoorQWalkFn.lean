/- Walks counted, vertex by vertex: both add the same numbers in the same order. -/
import Derived.Test.YtobkdanoipociaaDoorP10
import Derived.Test.YtobkdanoipociaaDoorQList
namespace Go.Proofs.YtobkdanoipociaaDoor.Q
open Go Go.RowKit Go.Proofs.YtobkdanoipociaaDoor.P Go.Proofs.YtobkdanoipociaaDoorW.PrintWords Go.Proofs.YtobkdanoipociaaDoorW.PrintMore
/-- c is added at each place of the list. -/
def addAll (c : Int) : List Int → List Int → List Int
  | a, [] => a
  | a, w :: ws => addAll c (a.set w.toNat (wrap64 (rd a w + c))) ws
theorem addAll_length (c : Int) (ws : List Int) : ∀ a, (addAll c a ws).length = a.length := by
  induction ws with
  | nil => intro a; rfl
  | cons w ws ih => intro a; simp [addAll, ih]
/-- The next numbers: from vertex v on, d vertices more. -/
def nextFrom (l cur : List Int) : Nat → Nat → List Int → List Int
  | 0, _, a => a
  | d + 1, v, a => nextFrom l cur d (v + 1) (addAll (rd cur v) a (ones (rd l v)))
theorem nextFrom_length (l cur : List Int) (d : Nat) : ∀ v a, (nextFrom l cur d v a).length = a.length := by
  induction d with
  | zero => intro v a; rfl
  | succ d ih => intro v a; simp [nextFrom, ih, addAll_length]
/-- t steps. -/
def steps (l : List Int) (n : Int) : Nat → List Int → List Int
  | 0, a => a
  | t + 1, a => steps l n t (nextFrom l a n.toNat 0 (List.replicate n.toNat 0))
theorem steps_length (l : List Int) (n : Int) (t : Nat) : ∀ a : List Int, a.length = n.toNat → (steps l n t a).length = n.toNat := by
  induction t with
  | zero => intro a h; exact h
  | succ t ih => intro a h; exact ih _ (by rw [nextFrom_length]; simp)
theorem onesFrom_high (x : Nat) (d e : Nat) : ∀ m, x < 2 ^ (m + d) → onesFrom x (d + e) m = onesFrom x d m := by
  induction d with
  | zero =>
    intro m h
    rw [Nat.zero_add]
    induction e generalizing m with
    | zero => rfl
    | succ e ihe =>
      have hb : x.testBit m = false := Nat.testBit_lt_two_pow h
      simp only [onesFrom, hb]
      rw [ihe (m + 1) (Nat.lt_of_lt_of_le h (Nat.pow_le_pow_right (by decide) (by omega)))]
      simp [onesFrom]
  | succ d ih =>
    intro m h
    rw [show d + 1 + e = (d + e) + 1 by omega]
    simp only [onesFrom]
    rw [ih (m + 1) (by rwa [show m + 1 + d = m + (d + 1) by omega])]
theorem ones_to {n x : Int} (n0 : 0 ≤ n) (n2 : n ≤ 62) (x0 : 0 ≤ x) (x1 : x < 2 ^ n.toNat) : ones x = onesFrom x.toNat n.toNat 0 := by
  unfold ones
  have e : ((2 : Int) ^ n.toNat) = ((2 ^ n.toNat : Nat) : Int) := by simp
  rw [e] at x1
  have := onesFrom_high x.toNat n.toNat (62 - n.toNat) 0 (by rw [Nat.zero_add]; omega)
  rwa [show n.toNat + (62 - n.toNat) = 62 by omega] at this
/-- The program's steps. -/
theorem i_walks {n : Int} {l : List Int} (h : rows n l) {v t : Int} (v0 : 0 ≤ v) (v1 : v < n) (t0 : 0 ≤ t) (t1 : t ≤ 1000) : Ev (fun k => impl_Graph_walks.f k n l v t) (steps l n t.toNat ((List.replicate n.toNat 0).set v.toNat 1)) := by
  have n1 := h.1
  have n2 := h.2.1
  have hl := h.2.2.1
  have outer : ∀ (d : Nat) (s : Int) (a : List Int), 0 ≤ s → s ≤ t → t - s = d → a.length = n.toNat → Ev (fun k => impl_Graph_walks.l0 k a t s n l) (steps l n d a) := by
    intro d
    induction d with
    | zero =>
      intro s a s0 s1 hd ha
      refine ev_k ?_
      simp only [impl_Graph_walks.l0]
      exact ev_neg (by omega) (Ev.now _)
    | succ d ih =>
      intro s a s0 s1 hd ha
      have mid : ∀ (e : Nat) (w : Nat) (b : List Int), (w : Int) ≤ n → n - w = e → b.length = n.toNat → Ev (fun k => impl_Graph_walks.l1 k a b t s n w n l) (steps l n d (nextFrom l a e w b)) := by
        intro e
        induction e with
        | zero =>
          intro w b w1 he hb
          refine ev_k ?_
          simp only [impl_Graph_walks.l1]
          refine ev_neg (by omega) ?_
          rw [w64 (a := s + 1) (by omega) (by omega)]
          exact ih (s + 1) b (by omega) (by omega) (by omega) hb
        | succ e ihe =>
          intro w b w1 he hb
          obtain ⟨hr0, hr1⟩ := h.2.2.2 w (by omega) (by omega)
          have hp := two_pow_le (n := n) (by omega) n2
          have inner : ∀ (ws pre : List Int) (c : List Int), pre ++ ws = ones (rd l w) → c.length = n.toNat → Ev (fun k => impl_Graph_walks.l2 k a c w t s n w (ones (rd l w)) (ones (rd l w)).length pre.length n l) (steps l n d (nextFrom l a e (w + 1) (addAll (rd a w) c ws))) := by
            intro ws
            have ol := ones_length (rd l w)
            induction ws with
            | nil =>
              intro pre c hp' hc
              rw [List.append_nil] at hp'
              refine ev_k ?_
              simp only [impl_Graph_walks.l2]
              refine ev_neg (by rw [hp']; omega) ?_
              have := ihe (w + 1) c (by omega) (by omega) hc
              rw [w64 (a := (w : Int) + 1) (by omega) (by omega)]
              exact this
            | cons u us ihu =>
              intro pre c hp' hc
              have hlen : pre.length < (ones (rd l w)).length := by rw [← hp']; simp
              have hu : rd (ones (rd l w)) pre.length = u := by
                rw [← hp']
                simp [rd, List.getD_eq_getElem?_getD]
              have hm : u ∈ ones (rd l w) := by rw [← hp']; simp
              obtain ⟨u0, u1, _⟩ := (ones_mem (by omega) n2 hr0 hr1 u).1 hm
              have := ihu (pre ++ [u]) (c.set u.toNat (wrap64 (rd c u + rd a w))) (by rw [← hp']; simp) (by simpa using hc)
              refine ev_k ?_
              simp only [impl_Graph_walks.l2, hu]
              refine ev_pos (by omega) (ev_pos (by omega) (ev_pos (by omega) (ev_pos u0 (ev_pos (by omega) (ev_pos (by omega) (ev_pos (by omega) ?_))))))
              rw [w64 (a := (pre.length : Int) + 1) (by omega) (by omega)]
              simpa [addAll] using this
          refine ev_k ?_
          simp only [impl_Graph_walks.l1]
          refine ev_pos (by omega) (ev_pos (by omega) (ev_pos (by omega) (Ev.bind (i_list hr0 (by omega)) ?_)))
          have := inner (ones (rd l w)) [] b (by simp) hb
          simpa [nextFrom] using this
      refine ev_k ?_
      simp only [impl_Graph_walks.l0]
      refine ev_pos (by omega) (ev_pos (by omega) (ev_pos (by omega) ?_))
      exact mid n.toNat 0 (List.replicate n.toNat 0) (by omega) (by omega) (by simp)
  unfold impl_Graph_walks.f
  refine ev_pos (by omega) (ev_pos (by omega) ?_)
  simp only [Option.bind_some]
  refine ev_pos v0 (ev_pos (by simp; omega) ?_)
  exact outer t.toNat 0 _ (by omega) t0 (by omega) (by simp)
end Go.Proofs.YtobkdanoipociaaDoor.Q
