/- The pure law and what it leans on, in one text (wip/bin/bundle). -/
import Derived.Test.YtcffgfomicpbfaaP11
import Derived.Test.YtcffgfomicpbfaaP18
import Derived.Test.YtcffgfomicpbfaaP6
import Derived.Test.YtcffgfomicpbfaaP10
import Derived.Test.YtcffgfomicpbfaaP4
import Derived.Test.YtcffgfomicpbfaaP5
import Derived.Test.YtcffgfomicpbfaaP9
import Derived.Test.YtcffgfomicpbfaaWA
import Derived.Test.YtcffgfomicpbfaaWBMore
import Derived.Test.YtcffgfomicpbfaaP3
import Derived.Test.YtcffgfomicpbfaaP8
import Derived.Test.YtcffgfomicpbfaaP2
import Derived.Test.YtcffgfomicpbfaaP7
import Derived.Test.YtcffgfomicpbfaaP1
import Derived.Test.YtcffgfomicpbfaaP13
import Derived.Test.YtcffgfomicpbfaaP15
import Derived.Test.YtcffgfomicpbfaaP17
import Derived.Test.YtcffgfomicpbfaaP12
import Derived.Test.YtcffgfomicpbfaaP14
import Derived.Test.YtcffgfomicpbfaaP16
namespace Go.Proofs.Ytcffgfomicpbfaa.Q
open Go Go.RowKit Go.Proofs.YtcffgfomicpbfaaW.PrintWords Go.Proofs.YtcffgfomicpbfaaW.PrintMore
theorem ev_k {α : Type} {g : Nat → Option α} {r : α} (h : Ev (fun k => g (k + 1)) r) : Ev g r := Ev.step (fun _ => rfl) h
theorem ev_some {α : Type} {r s : α} (h : r = s) : Ev (fun _ => some r) s := h ▸ Ev.now r
theorem ev_pos {α : Type} {c : Prop} [Decidable c] {f g : Nat → Option α} {r : α} (h : c) (H : Ev f r) : Ev (fun k => if c then f k else g k) r :=
  Ev.congr (fun _ => if_pos h) H
theorem ev_neg {α : Type} {c : Prop} [Decidable c] {f g : Nat → Option α} {r : α} (h : ¬ c) (H : Ev g r) : Ev (fun k => if c then f k else g k) r :=
  Ev.congr (fun _ => if_neg h) H
theorem w64 {a : Int} (h0 : -9223372036854775808 ≤ a) (h1 : a < 9223372036854775808) : wrap64 a = a := by
  unfold wrap64
  omega
def Says (g : Nat → Option Bool) (P : Prop) : Prop := ∃ b : Bool, Ev g b ∧ (b = true ↔ P)
theorem Says.yes {g : Nat → Option Bool} {P : Prop} (H : Says g P) (h : P) : Ev g true := by
  obtain ⟨b, hb, e⟩ := H
  rw [e.2 h] at hb
  exact hb
theorem Says.no {g : Nat → Option Bool} {P : Prop} (H : Says g P) (h : ¬ P) : Ev g false := by
  obtain ⟨b, hb, e⟩ := H
  cases b with
  | true => exact absurd (e.1 rfl) h
  | false => exact hb
end Go.Proofs.Ytcffgfomicpbfaa.Q
namespace Go.Proofs.Ytcffgfomicpbfaa.Q
open Go Go.RowKit
def nextsW (m : Nat) (kz : Bool) (t : List Int) : List (List Int) := ((List.range (m + 1)).filter fun (j : Nat) => !kz || decide (t.getLast? ≠ some (j : Int))).map fun (j : Nat) => t ++ [(j : Int)]
def extW (m : Nat) (kz : Bool) : Nat → List Int → List (List Int)
  | 0, b => [b]
  | j + 1, b => (nextsW m kz b).flatMap (extW m kz j)
theorem extW_succ (m : Nat) (kz : Bool) (j : Nat) : ∀ b, extW m kz (j + 1) b = (extW m kz j b).flatMap (nextsW m kz) := by
  induction j with
  | zero =>
    intro b
    have e : ∀ l : List (List Int), l.flatMap (fun t => [t]) = l := fun l => by
      induction l with
      | nil => rfl
      | cons a l ih => simp
    show (nextsW m kz b).flatMap (fun t => [t]) = _
    rw [e]
    simp [extW]
  | succ j ih =>
    intro b
    show (nextsW m kz b).flatMap (extW m kz (j + 1)) = ((nextsW m kz b).flatMap (extW m kz j)).flatMap (nextsW m kz)
    rw [List.flatMap_assoc]
    congr 1
    funext x
    exact ih x
def okW (m : Nat) (t : List Int) : Prop := ∀ x ∈ t, 0 ≤ x ∧ x ≤ (m : Int)
theorem nextsW_mem {m : Nat} {kz : Bool} {t u : List Int} (h : u ∈ nextsW m kz t) (ht : okW m t) : u.length = t.length + 1 ∧ okW m u := by
  obtain ⟨j, hj, rfl⟩ := List.mem_map.1 h
  have hj := List.mem_range.1 (List.mem_filter.1 hj).1
  refine ⟨by simp, fun x hx => ?_⟩
  rcases List.mem_append.1 hx with hx | hx
  · exact ht x hx
  · rw [List.mem_singleton.1 hx]
    omega
theorem extW_mem {m : Nat} {kz : Bool} (j : Nat) : ∀ {b u : List Int}, u ∈ extW m kz j b → okW m b → u.length = b.length + j ∧ okW m u := by
  induction j with
  | zero => intro b u h hb; rw [List.mem_singleton.1 h]; exact ⟨rfl, hb⟩
  | succ j ih =>
    intro b u h hb
    obtain ⟨t, ht, hu⟩ := List.mem_flatMap.1 h
    obtain ⟨h1, h2⟩ := nextsW_mem ht hb
    obtain ⟨h3, h4⟩ := ih hu h2
    exact ⟨by omega, h4⟩
theorem nextsW_length {m : Nat} {kz : Bool} (t : List Int) : (nextsW m kz t).length ≤ m + 1 := by
  unfold nextsW
  rw [List.length_map]
  have := List.length_filter_le (fun j : Nat => !kz || decide (t.getLast? ≠ some (j : Int))) (List.range (m + 1))
  simpa using this
theorem nextsW_kautz {m : Nat} {t : List Int} (ht : okW m t) (hne : t ≠ []) : (nextsW m true t).length ≤ m := by
  obtain ⟨x, hx⟩ : ∃ x, t.getLast? = some x := ⟨t.getLast hne, List.getLast?_eq_some_getLast hne⟩
  have hxm : x ∈ t := List.mem_of_getLast? hx
  have hr := ht x hxm
  unfold nextsW
  rw [List.length_map, hx]
  have : ¬ ((List.range (m + 1)).filter fun (j : Nat) => !true || decide (some x ≠ some (j : Int))).length = (List.range (m + 1)).length := by
    intro e
    have := (List.length_filter_eq_length_iff.1 e) x.toNat (List.mem_range.2 (by omega))
    simp at this
    omega
  have := List.length_filter_le (fun j : Nat => !true || decide (some x ≠ some (j : Int))) (List.range (m + 1))
  simp only [List.length_range] at *
  omega
theorem flatMap_len {α β : Type} (l : List α) (f : α → List β) (c : Nat) (h : ∀ x ∈ l, (f x).length ≤ c) : (l.flatMap f).length ≤ l.length * c := by
  induction l with
  | nil => simp
  | cons a l ih =>
    have h1 := h a (by simp)
    have h2 := ih fun x hx => h x (by simp [hx])
    rw [List.flatMap_cons, List.length_append, List.length_cons, Nat.add_mul]
    omega
theorem extW_kautz (m j : Nat) : (extW m true (j + 1) []).length ≤ (m + 1) * m ^ j := by
  induction j with
  | zero =>
    have : (extW m true 1 []).length ≤ 1 * (m + 1) := by
      rw [extW_succ]
      exact flatMap_len _ _ (m + 1) fun t _ => nextsW_length t
    simpa using this
  | succ j ih =>
    rw [extW_succ, Nat.pow_succ, ← Nat.mul_assoc]
    refine Nat.le_trans (flatMap_len _ _ m fun t ht => ?_) (Nat.mul_le_mul_right _ ih)
    obtain ⟨h1, h2⟩ := extW_mem (j + 1) ht (fun x hx => by cases hx)
    exact nextsW_kautz h2 (by rintro rfl; simp at h1)
end Go.Proofs.Ytcffgfomicpbfaa.Q
namespace Go.Proofs.Ytcffgfomicpbfaa.Q
open Go Go.RowKit Go.Proofs.Ytcffgfomicpbfaa.P Go.Proofs.YtcffgfomicpbfaaW.PrintWords Go.Proofs.YtcffgfomicpbfaaW.PrintMore
def nx (kz : Bool) (t : List Int) (x : Nat) : List (List Int) := ((List.range x).filter fun (j : Nat) => !kz || decide (t.getLast? ≠ some (j : Int))).map fun (j : Nat) => t ++ [(j : Int)]
theorem nx_all (m : Nat) (kz : Bool) (t : List Int) : nextsW m kz t = nx kz t (m + 1) := rfl
theorem nx_zero (kz : Bool) (t : List Int) : nx kz t 0 = [] := rfl
theorem nx_yes {kz : Bool} {t : List Int} {x : Nat} (h : kz = false ∨ t.getLast? ≠ some (x : Int)) : nx kz t (x + 1) = nx kz t x ++ [t ++ [(x : Int)]] := by
  unfold nx
  rw [List.range_succ, List.filter_append, List.map_append]
  congr 1
  rcases h with rfl | h
  · simp
  · simp [h]
theorem nx_no {kz : Bool} {t : List Int} {x : Nat} (hk : kz = true) (h : t.getLast? = some (x : Int)) : nx kz t (x + 1) = nx kz t x := by
  unfold nx
  rw [List.range_succ, List.filter_append, List.map_append]
  simp [hk, h]
theorem nx_prefix (kz : Bool) (t : List Int) (x d : Nat) : ∃ s, nx kz t (x + d) = nx kz t x ++ s := by
  induction d with
  | zero => exact ⟨[], by simp⟩
  | succ d ih =>
    obtain ⟨s, hs⟩ := ih
    rw [show x + (d + 1) = (x + d) + 1 by omega]
    by_cases h : kz = true ∧ t.getLast? = some ((x + d : Nat) : Int)
    · exact ⟨s, by rw [nx_no h.1 h.2, hs]⟩
    · refine ⟨s ++ [t ++ [((x + d : Nat) : Int)]], ?_⟩
      rw [nx_yes, hs, List.append_assoc]
      cases kz with
      | false => exact .inl rfl
      | true => exact .inr fun z => h ⟨rfl, z⟩
theorem nx_length (kz : Bool) (t : List Int) (x : Nat) : (nx kz t x).length ≤ x := by
  unfold nx
  rw [List.length_map]
  have := List.length_filter_le (fun j : Nat => !kz || decide (t.getLast? ≠ some (j : Int))) (List.range x)
  simpa using this
theorem nx_mem {kz : Bool} {t : List Int} {x m : Nat} (hx : x ≤ m) (h : kz = false ∨ t.getLast? ≠ some (x : Int)) : t ++ [(x : Int)] ∈ nextsW m kz t := by
  refine List.mem_map.2 ⟨x, List.mem_filter.2 ⟨List.mem_range.2 (by omega), ?_⟩, rfl⟩
  rcases h with rfl | h
  · simp
  · simp [h]
theorem mem_flatMap_le {α β : Type} {l : List α} (f : α → List β) {x : α} (h : x ∈ l) : (f x).length ≤ (l.flatMap f).length := by
  induction l with
  | nil => cases h
  | cons a l ih =>
    rw [List.flatMap_cons, List.length_append]
    rcases List.mem_cons.1 h with rfl | h
    · omega
    · have := ih h
      omega
theorem last_rd {t : List Int} (h : t ≠ []) (x : Int) : rd t ((t.length : Int) - 1) = x ↔ t.getLast? = some x := by
  have hp : 0 < t.length := List.length_pos_iff.2 h
  rw [List.getLast?_eq_getElem?, rd, List.getD_eq_getElem?_getD, show ((t.length : Int) - 1).toNat = t.length - 1 by omega, List.getElem?_eq_getElem (by omega)]
  simp
theorem extW_len_pos {m : Nat} {kz : Bool} {j : Nat} {x : List Int} (h : x ∈ extW m kz j []) : x.length = j ∧ okW m x := by
  obtain ⟨a, b⟩ := extW_mem j h (fun y hy => by cases hy)
  exact ⟨by simpa using a, b⟩
end Go.Proofs.Ytcffgfomicpbfaa.Q
namespace Go.Proofs.Ytcffgfomicpbfaa.Q
open Go Go.RowKit Go.Proofs.Ytcffgfomicpbfaa.P Go.Proofs.YtcffgfomicpbfaaW.PrintWords Go.Proofs.YtcffgfomicpbfaaW.PrintMore
theorem rdL1_mid (pre suf : List (List Int)) (x : List Int) : rd_L1 (pre ++ x :: suf) (pre.length : Int) = x := by
  simp [rd_L1, List.getD_eq_getElem?_getD]
theorem clone_some {l : List Int} (h : l.length < 17592186044416) : slices_Clone_int64_int64.f l = some l := by
  unfold slices_Clone_int64_int64.f
  rw [if_pos h]
theorem own_some {l : List Int} (h : l.length < 17592186044416) : spec_l01Own.f l = some l := by
  unfold spec_l01Own.f
  simp only [Option.bind_some, List.nil_append]
  rw [if_pos (by simp; omega)]
theorem i_kautzWords (m K : Nat) (hm : m ≤ 61) (hK : K ≤ 10) (hn : ∀ i, i ≤ K → (extW m true i []).length ≤ 62) : Ev (fun z => impl_kautzWords.f z (m : Int) (K : Int)) (extW m true K []) := by
  have outer : ∀ (d i : Nat), i + d = K → Ev (fun z => impl_kautzWords.l0 z (m : Int) (extW m true i []) (K : Int) (i : Int)) (extW m true K []) := by
    intro d
    induction d with
    | zero =>
      intro i hi
      refine ev_k ?_
      simp only [impl_kautzWords.l0]
      exact ev_neg (by omega) (ev_some (by rw [show i = K by omega]))
    | succ d ih =>
      intro i hi
      have h1 := ih (i + 1) (by omega)
      have hl := hn i (by omega)
      have hmem : ∀ x ∈ extW m true i [], x.length = i := fun x hx => (extW_len_pos hx).1
      rw [extW_succ] at h1
      have middle : ∀ suf pre : List (List Int), pre ++ suf = extW m true i [] → Ev (fun z => impl_kautzWords.l1 z (m : Int) (pre.flatMap (nextsW m true)) (K : Int) (i : Int) (extW m true i []) ((extW m true i []).length : Int) (pre.length : Int)) (extW m true K []) := by
        intro suf
        induction suf with
        | nil =>
          intro pre e
          rw [List.append_nil] at e
          refine ev_k ?_
          simp only [impl_kautzWords.l1]
          rw [w64 (a := (i : Int) + 1) (by omega) (by omega)]
          refine ev_neg (by rw [e]; omega) ?_
          rw [e]
          exact h1
        | cons t suf ihm =>
          intro pre e
          have h2 := ihm (pre ++ [t]) (by rw [← e]; simp)
          have hlen : pre.length < (extW m true i []).length := by rw [← e]; simp
          have hr : rd_L1 (extW m true i []) (pre.length : Int) = t := by rw [← e]; exact rdL1_mid pre suf t
          have ht := hmem t (by rw [← e]; simp)
          have hpre : (pre.flatMap (nextsW m true)).length ≤ 62 * 62 := Nat.le_trans (flatMap_len _ _ (m + 1) fun x _ => nextsW_length x) (Nat.mul_le_mul (by omega) (by omega))
          rw [List.length_append, List.length_singleton, Int.natCast_add, List.flatMap_append] at h2
          have inner : ∀ (f x : Nat), x + f = m + 1 → Ev (fun z => impl_kautzWords.l2 z (m : Int) (pre.flatMap (nextsW m true) ++ nx true t x) t (K : Int) (i : Int) (extW m true i []) ((extW m true i []).length : Int) (pre.length : Int) ((m : Int) + 1) (x : Int)) (extW m true K []) := by
            intro f
            induction f with
            | zero =>
              intro x hx
              refine ev_k ?_
              simp only [impl_kautzWords.l2]
              rw [w64 (a := (pre.length : Int) + 1) (by omega) (by omega)]
              refine ev_neg (by omega) ?_
              have : pre.flatMap (nextsW m true) ++ nx true t x = pre.flatMap (nextsW m true) ++ [t].flatMap (nextsW m true) := by
                rw [show x = m + 1 by omega, ← nx_all]
                simp
              rw [this]
              exact h2
            | succ f ihf =>
              intro x hx
              have h3 := ihf (x + 1) (by omega)
              have hb := nx_length true t x
              refine ev_k ?_
              simp only [impl_kautzWords.l2, clone_some (show t.length < 17592186044416 by omega), Option.bind_some]
              rw [w64 (a := (x : Int) + 1) (by omega) (by omega)]
              refine ev_pos (by omega) ?_
              by_cases z : (t.length : Int) = 0
              · rw [nx_yes (.inr (by rw [List.eq_nil_of_length_eq_zero (by omega : t.length = 0)]; simp)), ← List.append_assoc] at h3
                exact ev_pos z (ev_pos (by omega) (ev_pos (by rw [List.length_append]; omega) h3))
              · rw [w64 (a := (t.length : Int) - 1) (by omega) (by omega)]
                have tn : t ≠ [] := fun e => z (by rw [e]; rfl)
                refine ev_neg z (ev_pos (by omega) (ev_pos (by omega) ?_))
                by_cases y : rd t ((t.length : Int) - 1) = (x : Int)
                · rw [nx_no rfl ((last_rd tn _).1 y)] at h3
                  exact ev_pos y h3
                · rw [nx_yes (.inr fun q => y ((last_rd tn _).2 q)), ← List.append_assoc] at h3
                  exact ev_neg y (ev_pos (by omega) (ev_pos (by rw [List.length_append]; omega) h3))
          refine ev_k ?_
          simp only [impl_kautzWords.l1, hr]
          have := inner (m + 1) 0 (by omega)
          rw [nx_zero, List.append_nil] at this
          rw [w64 (a := (m : Int) + 1) (by omega) (by omega)]
          exact ev_pos (by omega) (ev_pos (by omega) (ev_pos (by omega) this))
      have := middle (extW m true i []) [] rfl
      refine ev_k ?_
      simp only [impl_kautzWords.l0]
      exact ev_pos (by omega) this
  unfold impl_kautzWords.f
  exact outer K 0 (by omega)
theorem s_list (m D K : Nat) (kz : Bool) (hD : (if kz then (D : Int) else (D : Int) - 1) = (m : Int)) (hD2 : D ≤ 62) (hm : m ≤ 61) (hK : K ≤ 10) (r : Nat) : ∀ b : List Int, b.length + r = K → (extW m kz r b).length ≤ 62 → Ev (fun z => spec_l08List.f z (D : Int) (K : Int) kz b) (extW m kz r b) := by
  induction r with
  | zero =>
    intro b hb _
    refine ev_k ?_
    simp only [spec_l08List.f, own_some (show b.length < 17592186044416 by omega), Option.bind_some]
    exact ev_pos (by omega) (Ev.now _)
  | succ r ih =>
    intro b hb hlen
    have hfl : extW m kz (r + 1) b = (nextsW m kz b).flatMap (extW m kz r) := rfl
    have loop : ∀ (f x : Nat), x + f = m + 1 → Ev (fun z => spec_l08List.l0 z (D : Int) (K : Int) kz b ((nx kz b x).flatMap (extW m kz r)) (m : Int) (x : Int)) (extW m kz (r + 1) b) := by
      intro f
      induction f with
      | zero =>
        intro x hx
        refine ev_k ?_
        simp only [spec_l08List.l0]
        exact ev_neg (by omega) (ev_some (by rw [hfl, nx_all, show x = m + 1 by omega]))
      | succ f ihf =>
        intro x hx
        have h3 := ihf (x + 1) (by omega)
        have yes : kz = false ∨ b.getLast? ≠ some (x : Int) → Ev (fun z => spec_l08List.j2 z (D : Int) (K : Int) kz b ((nx kz b x).flatMap (extW m kz r)) (m : Int) (x : Int) true) (extW m kz (r + 1) b) := by
          intro h
          have hmem := nx_mem (show x ≤ m by omega) h
          have hpart : (extW m kz r (b ++ [(x : Int)])).length ≤ 62 := by
            have := mem_flatMap_le (extW m kz r) hmem
            rw [hfl] at hlen
            omega
          have hacc : ((nx kz b x).flatMap (extW m kz r)).length ≤ 62 := by
            obtain ⟨s, hs⟩ := nx_prefix kz b x (m + 1 - x)
            rw [show x + (m + 1 - x) = m + 1 by omega] at hs
            rw [hfl, nx_all, hs, List.flatMap_append, List.length_append] at hlen
            omega
          have hrec := ih (b ++ [(x : Int)]) (by simp; omega) hpart
          rw [nx_yes h, List.flatMap_append, show [b ++ [(x : Int)]].flatMap (extW m kz r) = extW m kz r (b ++ [(x : Int)]) by simp] at h3
          refine ev_k ?_
          simp only [spec_l08List.j2, own_some (show b.length < 17592186044416 by omega), Option.bind_some]
          rw [w64 (a := (x : Int) + 1) (by omega) (by omega)]
          exact ev_pos trivial (ev_pos (by omega) (Ev.bind hrec (ev_pos (by omega) h3)))
        have no : kz = true → b.getLast? = some (x : Int) → Ev (fun z => spec_l08List.j2 z (D : Int) (K : Int) kz b ((nx kz b x).flatMap (extW m kz r)) (m : Int) (x : Int) false) (extW m kz (r + 1) b) := by
          intro h h'
          rw [nx_no h h'] at h3
          refine ev_k ?_
          simp only [spec_l08List.j2]
          rw [w64 (a := (x : Int) + 1) (by omega) (by omega)]
          exact ev_neg (by simp) h3
        refine ev_k ?_
        simp only [spec_l08List.l0]
        refine ev_pos (by omega) ?_
        by_cases hk : kz = true
        · refine ev_pos hk ?_
          by_cases z : (b.length : Int) = 0
          · exact ev_pos z (yes (.inr (by rw [List.eq_nil_of_length_eq_zero (by omega : b.length = 0)]; simp)))
          · rw [w64 (a := (b.length : Int) - 1) (by omega) (by omega)]
            have tn : b ≠ [] := fun e => z (by rw [e]; rfl)
            refine ev_neg z (ev_pos (by omega) (ev_pos (by omega) ?_))
            by_cases y : rd b ((b.length : Int) - 1) = (x : Int)
            · rw [show (rd b ((b.length : Int) - 1) != (x : Int)) = false by simp [y]]
              exact no hk ((last_rd tn _).1 y)
            · rw [show (rd b ((b.length : Int) - 1) != (x : Int)) = true by simp [y]]
              exact yes (.inr fun q => y ((last_rd tn _).2 q))
        · exact ev_neg hk (yes (.inl (by simpa using hk)))
    have h0 := loop (m + 1) 0 (by omega)
    rw [nx_zero] at h0
    refine ev_k ?_
    simp only [spec_l08List.f, Option.bind_some]
    refine ev_neg (by omega) ?_
    have hj : ∀ q : Int, q = (m : Int) → Ev (fun z => spec_l08List.j0 z (D : Int) (K : Int) kz b [] q) (extW m kz (r + 1) b) := by
      intro q hq
      rw [hq]
      refine ev_k ?_
      simp only [spec_l08List.j0]
      exact h0
    by_cases hk : kz = true
    · rw [if_pos hk] at hD
      exact ev_pos hk (hj _ hD)
    · rw [if_neg hk] at hD
      refine ev_neg hk ?_
      rw [w64 (a := (D : Int) - 1) (by omega) (by omega)]
      exact hj _ hD
end Go.Proofs.Ytcffgfomicpbfaa.Q
namespace Go.Proofs.Ytcffgfomicpbfaa.Q
open Go Go.RowKit Go.Proofs.Ytcffgfomicpbfaa.P
theorem s_in (a b c : Int) : spec_l01In.f a b c = some (decide (b ≤ a ∧ a ≤ c)) := by
  unfold spec_l01In.f
  split
  · exact congrArg some (decide_eq_decide.2 (by omega))
  · exact congrArg some (decide_eq_false (by omega)).symm
end Go.Proofs.Ytcffgfomicpbfaa.Q
namespace Go.Proofs.Ytcffgfomicpbfaa.Q
open Go Go.RowKit Go.Proofs.Ytcffgfomicpbfaa.P Go.Proofs.YtcffgfomicpbfaaW.PrintWords Go.Proofs.YtcffgfomicpbfaaW.PrintMore
theorem cap_step (c D : Nat) (hD : 1 ≤ D) : min (min c 63 * D) 63 = min (c * D) 63 := by
  by_cases h : c ≤ 63
  · rw [Nat.min_eq_left h]
  · have h1 : 63 ≤ 63 * D := Nat.le_mul_of_pos_right _ hD
    have h2 : 63 ≤ c * D := Nat.le_trans (by omega : 63 ≤ c) (Nat.le_mul_of_pos_right _ hD)
    rw [Nat.min_eq_right (by omega : 63 ≤ c), Nat.min_eq_right h1, Nat.min_eq_right h2]
theorem mn_step (c D : Nat) (hD : 1 ≤ D) (h2 : D ≤ 62) : mn (wrap64 (((min c 63 : Nat) : Int) * (D : Int))) 63 = ((min (c * D) 63 : Nat) : Int) := by
  have b : min c 63 * D ≤ 63 * 62 := Nat.mul_le_mul (Nat.min_le_right _ _) h2
  rw [← cap_step c D hD, show ((min c 63 : Nat) : Int) * (D : Int) = ((min c 63 * D : Nat) : Int) by simp]
  generalize min c 63 * D = x at *
  rw [w64 (by omega) (by omega)]
  unfold mn
  split <;> omega
theorem i_capped (D K : Nat) (hD : 1 ≤ D) (h2 : D ≤ 62) (hK : K ≤ 10) : Ev (fun z => impl_capped.f z (D : Int) (K : Int) 62) ((min (D ^ K) 63 : Nat) : Int) := by
  have loop : ∀ (d i : Nat), i + d = K → Ev (fun z => impl_capped.l0 z (D : Int) 62 ((min (D ^ i) 63 : Nat) : Int) (K : Int) (i : Int)) ((min (D ^ K) 63 : Nat) : Int) := by
    intro d
    induction d with
    | zero =>
      intro i hi
      refine ev_k ?_
      simp only [impl_capped.l0]
      exact ev_neg (by omega) (ev_some (by rw [show i = K by omega]))
    | succ d ih =>
      intro i hi
      have := ih (i + 1) (by omega)
      refine ev_k ?_
      simp only [impl_capped.l0]
      refine ev_pos (by omega) ?_
      rw [w64 (a := (i : Int) + 1) (by omega) (by omega), show wrap64 (62 + 1) = 63 from by simp [wrap64], mn_step _ D hD h2, ← Nat.pow_succ]
      exact this
  unfold impl_capped.f
  have := loop K 0 (by omega)
  simpa using this
theorem s_words (c D : Nat) (hD : 1 ≤ D) (h2 : D ≤ 62) (d : Nat) : ∀ i : Nat, d ≤ 10 → Ev (fun z => spec_l08Words.l0 z (D : Int) ((d : Int) + 1) ((min (c * D ^ i) 63 : Nat) : Int)) ((min (c * D ^ (i + d)) 63 : Nat) : Int) := by
  induction d with
  | zero =>
    intro i _
    refine ev_k ?_
    simp only [spec_l08Words.l0]
    exact ev_neg (by omega) (Ev.now _)
  | succ d ih =>
    intro i hd
    have := ih (i + 1) (by omega)
    refine ev_k ?_
    simp only [spec_l08Words.l0]
    refine ev_pos (by omega) ?_
    rw [w64 (a := ((d + 1 : Nat) : Int) + 1 - 1) (by omega) (by omega), mn_step _ D hD h2, Nat.mul_assoc, ← Nat.pow_succ, show ((d + 1 : Nat) : Int) + 1 - 1 = (d : Int) + 1 by omega]
    rw [show i + 1 + d = i + (d + 1) by omega] at this
    exact this
theorem s_count (D K : Nat) (kz : Bool) (hD : 1 ≤ D) (h2 : D ≤ 62) (hK : 1 ≤ K) (hK2 : K ≤ 10) : Ev (fun z => spec_l08Words.f z (D : Int) (K : Int) kz) ((min ((if kz then D + 1 else D) * D ^ (K - 1)) 63 : Nat) : Int) := by
  have e : (K : Int) = ((K - 1 : Nat) : Int) + 1 := by omega
  unfold spec_l08Words.f
  cases kz with
  | true =>
    refine ev_pos rfl (ev_k ?_)
    simp only [spec_l08Words.j0]
    rw [w64 (a := (D : Int) + 1) (by omega) (by omega)]
    have := s_words (D + 1) D hD h2 (K - 1) 0 (by omega)
    rw [Nat.pow_zero, Nat.mul_one, Nat.min_eq_left (by omega), Nat.zero_add] at this
    rw [e]
    exact this
  | false =>
    refine ev_neg (by decide) (ev_k ?_)
    simp only [spec_l08Words.j0]
    have := s_words D D hD h2 (K - 1) 0 (by omega)
    rw [Nat.pow_zero, Nat.mul_one, Nat.min_eq_left (by omega), Nat.zero_add] at this
    rw [e]
    exact this
end Go.Proofs.Ytcffgfomicpbfaa.Q
namespace Go.Proofs.Ytcffgfomicpbfaa.Q
open Go Go.RowKit Go.Proofs.Ytcffgfomicpbfaa.P Go.Proofs.YtcffgfomicpbfaaW.PrintWords Go.Proofs.YtcffgfomicpbfaaW.PrintMore
theorem kcodes (d k : Int) : ∃ c, Ev (fun z => spec_l08Kautz.f z d k) c ∧ Ev (fun z => impl_kautzCode.f z d k) c ∧ (c = 0 → ∃ D K : Nat, d = D ∧ k = K ∧ 1 ≤ D ∧ D ≤ 61 ∧ 1 ≤ K ∧ K ≤ 10 ∧ (D + 1) * D ^ (K - 1) ≤ 62) := by
  have ij : ∀ (b : Bool) (q : Int), Ev (fun z => impl_kautzCode.j0 z d k b) q → (b = true → d < 1 ∨ d > 61 ∨ k < 1 ∨ k > 10) → (b = false → ¬ (d < 1 ∨ d > 61 ∨ k < 1 ∨ k > 10)) → Ev (fun z => impl_kautzCode.f z d k) q := by
    intro b q h h1 h2
    unfold impl_kautzCode.f
    by_cases c1 : d < 1
    · obtain rfl : b = true := by cases b with | true => rfl | false => exact absurd (.inl c1) (h2 rfl)
      exact ev_pos c1 h
    refine ev_neg c1 ?_
    by_cases c2 : d > 61
    · obtain rfl : b = true := by cases b with | true => rfl | false => exact absurd (.inr (.inl c2)) (h2 rfl)
      exact ev_pos c2 h
    refine ev_neg c2 ?_
    by_cases c3 : k < 1
    · obtain rfl : b = true := by cases b with | true => rfl | false => exact absurd (.inr (.inr (.inl c3))) (h2 rfl)
      exact ev_pos c3 h
    refine ev_neg c3 ?_
    have : b = decide (k > 10) := by
      cases b with
      | true => have := h1 rfl; exact (decide_eq_true (by omega)).symm
      | false => have := h2 rfl; exact (decide_eq_false (by omega)).symm
    rw [← this]
    exact h
  have sj : ∀ (b : Bool) (q : Int), Ev (fun z => spec_l08Kautz.j0 z d k b) q → (b = true → d < 1 ∨ d > 61 ∨ k < 1 ∨ k > 10) → (b = false → ¬ (d < 1 ∨ d > 61 ∨ k < 1 ∨ k > 10)) → Ev (fun z => spec_l08Kautz.f z d k) q := by
    intro b q h h1 h2
    unfold spec_l08Kautz.f
    simp only [s_in, Option.bind_some]
    by_cases c1 : 1 ≤ d ∧ d ≤ 61
    · refine ev_pos (decide_eq_true c1) ?_
      have : b = !(decide (1 ≤ k ∧ k ≤ 10)) := by
        cases b with
        | true => have := h1 rfl; rw [decide_eq_false (by omega)]; rfl
        | false => have := h2 rfl; rw [decide_eq_true (by omega)]; rfl
      rw [← this]
      exact h
    · obtain rfl : b = true := by cases b with | true => rfl | false => exact absurd (by omega) (h2 rfl)
      exact ev_neg (by simpa using c1) h
  by_cases c : d < 1 ∨ d > 61 ∨ k < 1 ∨ k > 10
  · refine ⟨2, sj true _ (ev_k ?_) (fun _ => c) (by simp), ij true _ (ev_k ?_) (fun _ => c) (by simp), by simp⟩
    · simp only [spec_l08Kautz.j0]
      exact ev_pos trivial (Ev.now _)
    · simp only [impl_kautzCode.j0]
      exact ev_pos trivial (Ev.now _)
  · obtain ⟨D, rfl⟩ := Int.eq_ofNat_of_zero_le (show 0 ≤ d by omega)
    obtain ⟨K, rfl⟩ := Int.eq_ofNat_of_zero_le (show 0 ≤ k by omega)
    have hi := i_capped D (K - 1) (by omega) (by omega) (by omega)
    have hs := s_count D K true (by omega) (by omega) (by omega) (by omega)
    rw [if_pos rfl] at hs
    have e1 : wrap64 ((K : Int) - 1) = ((K - 1 : Nat) : Int) := by rw [w64 (by omega) (by omega)]; omega
    have e2 : wrap64 ((D : Int) + 1) = ((D + 1 : Nat) : Int) := by rw [w64 (by omega) (by omega)]; omega
    have b : (D + 1) * min (D ^ (K - 1)) 63 ≤ 62 * 63 := Nat.mul_le_mul (by omega) (Nat.min_le_right _ _)
    have e3 : wrap64 (((D + 1 : Nat) : Int) * ((min (D ^ (K - 1)) 63 : Nat) : Int)) = (((D + 1) * min (D ^ (K - 1)) 63 : Nat) : Int) := by
      rw [show ((D + 1 : Nat) : Int) * ((min (D ^ (K - 1)) 63 : Nat) : Int) = (((D + 1) * min (D ^ (K - 1)) 63 : Nat) : Int) by simp]
      generalize (D + 1) * min (D ^ (K - 1)) 63 = x at *
      exact w64 (by omega) (by omega)
    have ht : (D + 1) * min (D ^ (K - 1)) 63 > 62 ↔ (D + 1) * D ^ (K - 1) > 62 := by
      by_cases h : D ^ (K - 1) ≤ 63
      · rw [Nat.min_eq_left h]
      · have h1 : 63 ≤ (D + 1) * 63 := Nat.le_mul_of_pos_left _ (by omega)
        have h2 : D ^ (K - 1) ≤ (D + 1) * D ^ (K - 1) := Nat.le_mul_of_pos_left _ (by omega)
        rw [Nat.min_eq_right (by omega)]
        omega
    by_cases cl : 62 < (D + 1) * D ^ (K - 1)
    · refine ⟨3, sj false _ (ev_k ?_) (by simp) (fun _ => c), ij false _ (ev_k ?_) (by simp) (fun _ => c), by simp⟩
      · simp only [spec_l08Kautz.j0]
        exact ev_neg (by simp) (Ev.bind hs (ev_pos (by omega) (Ev.now _)))
      · simp only [impl_kautzCode.j0]
        refine ev_neg (by simp) ?_
        rw [e1]
        refine Ev.bind hi ?_
        rw [e2, e3]
        exact ev_pos (by have := ht.2 cl; omega) (Ev.now _)
    · refine ⟨0, sj false _ (ev_k ?_) (by simp) (fun _ => c), ij false _ (ev_k ?_) (by simp) (fun _ => c), fun _ => ⟨D, K, rfl, rfl, by omega, by omega, by omega, by omega, by omega⟩⟩
      · simp only [spec_l08Kautz.j0]
        exact ev_neg (by simp) (Ev.bind hs (ev_neg (by omega) (Ev.now _)))
      · simp only [impl_kautzCode.j0]
        refine ev_neg (by simp) ?_
        rw [e1]
        refine Ev.bind hi ?_
        rw [e2, e3]
        exact ev_neg (by have : ¬ (D + 1) * min (D ^ (K - 1)) 63 > 62 := fun z => cl (ht.1 z); omega) (Ev.now _)
theorem kbound {D K : Nat} (h1 : 1 ≤ D) (hK : 1 ≤ K) (h : (D + 1) * D ^ (K - 1) ≤ 62) (i : Nat) (hi : i ≤ K) : (extW D true i []).length ≤ 62 := by
  cases i with
  | zero => simp [extW]
  | succ j =>
    have a := extW_kautz D j
    have b : D ^ j ≤ D ^ (K - 1) := Nat.pow_le_pow_right h1 (by omega)
    have c : (D + 1) * D ^ j ≤ (D + 1) * D ^ (K - 1) := Nat.mul_le_mul_left _ b
    omega
end Go.Proofs.Ytcffgfomicpbfaa.Q
namespace Go.Proofs.Ytcffgfomicpbfaa.Q
open Go Go.RowKit Go.Proofs.Ytcffgfomicpbfaa.P Go.Proofs.YtcffgfomicpbfaaW.PrintWords Go.Proofs.YtcffgfomicpbfaaW.PrintMore
theorem rd_at (l : List Int) (i : Int) (h1 : i.toNat < l.length) : rd l i = l[i.toNat] := by
  simp [rd, List.getD_eq_getElem?_getD, List.getElem?_eq_getElem h1]
theorem eqS_l0 (l m : List Int) (e : l.length = m.length) (hl : l.length < 9223372036854775807) (d : Nat) : ∀ (i : Int), 0 ≤ i → i ≤ l.length → l.length - i = d →
    Ev (fun k => laws_eqInt64S.l0 k l m i) (decide (l.drop i.toNat = m.drop i.toNat)) := by
  have dc : ∀ (l : List Int) (i : Int), 0 ≤ i → i < l.length → l.drop i.toNat = rd l i :: l.drop (i + 1).toNat := fun l i h0 h1 => by
    rw [List.drop_eq_getElem_cons (by omega : i.toNat < l.length), show (i + 1).toNat = i.toNat + 1 by omega, rd_at l i (by omega)]
  induction d with
  | zero =>
    intro i h0 h1 hd
    refine ev_k ?_
    simp only [laws_eqInt64S.l0]
    refine ev_neg (by omega) (ev_some ?_)
    rw [List.drop_of_length_le (by omega), List.drop_of_length_le (by omega)]
    rfl
  | succ d ih =>
    intro i h0 h1 hd
    refine ev_k ?_
    simp only [laws_eqInt64S.l0]
    refine ev_pos (by omega) (ev_pos h0 (ev_pos (by omega) ?_))
    rw [w64 (a := i + 1) (by omega) (by omega), dc l i h0 (by omega), dc m i h0 (by omega)]
    by_cases h : rd l i = rd m i
    · refine ev_pos h ?_
      simp only [List.cons.injEq, h, true_and]
      exact ih (i + 1) (by omega) (by omega) (by omega)
    · refine ev_neg h (ev_some ?_)
      simp [h]
theorem eqS (l m : List Int) (hl : l.length < 9223372036854775807) : Ev (fun k => laws_eqInt64S.f k l m) (decide (l = m)) := by
  unfold laws_eqInt64S.f
  by_cases e : l.length = m.length
  · refine ev_pos (by omega) ?_
    simpa using eqS_l0 l m e hl l.length 0 (by omega) (by omega) (by omega)
  · refine ev_neg (by omega) (ev_some ?_)
    exact (decide_eq_false fun h => e (by rw [h])).symm
theorem eqS_self (l : List Int) (hl : l.length < 9223372036854775807) : Ev (fun k => laws_eqInt64S.f k l l) true := by
  simpa using eqS l l hl
def marks (a : Int) (n : Nat) : List Int := (List.range n).map fun (j : Nat) => a + (j : Int)
theorem marks_length (a : Int) (n : Nat) : (marks a n).length = n := by simp [marks]
theorem marks_at (a : Int) (n j : Nat) (h : j < n) : (marks a n)[j]? = some (a + j) := by
  simp [marks, h]
theorem mark_l0 (n : Nat) (a : Int) (ha : 0 ≤ a) (hn : a + n < 9223372036854775807) (d : Nat) : ∀ (m : List Int) (i : Int), 0 ≤ i → i ≤ n → n - i = d → m.length = n → (∀ j, j < i.toNat → m[j]? = some (a + j)) →
    Ev (fun k => laws_markInt64S.l0 k m (a + i) i) (a + n, marks a n) := by
  induction d with
  | zero =>
    intro m i h0 h1 hd hm hj
    refine ev_k ?_
    simp only [laws_markInt64S.l0]
    refine ev_neg (by omega) (ev_some ?_)
    have : m = marks a n := by
      refine List.ext_getElem? fun j => ?_
      by_cases h : j < n
      · rw [hj j (by omega), marks_at a n j h]
      · rw [List.getElem?_eq_none (by omega), List.getElem?_eq_none (by rw [marks_length]; omega)]
    rw [this, show i = n by omega]
  | succ d ih =>
    intro m i h0 h1 hd hm hj
    refine ev_k ?_
    simp only [laws_markInt64S.l0]
    refine ev_pos (by omega) (ev_pos h0 ?_)
    rw [w64 (a := i + 1) (by omega) (by omega), w64 (a := a + i + 1) (by omega) (by omega), show a + i + 1 = a + (i + 1) by omega]
    refine ih _ (i + 1) (by omega) (by omega) (by omega) (by simpa using hm) fun j h => ?_
    rw [List.getElem?_set]
    split
    · subst_vars
      rw [if_pos (by omega), Int.toNat_of_nonneg h0]
    · exact hj j (by omega)
theorem markS (l : List Int) (a : Int) (ha : 0 ≤ a) (hn : a + l.length < 9223372036854775807) : Ev (fun k => laws_markInt64S.f k l a) (a + l.length, marks a l.length) := by
  unfold laws_markInt64S.f
  have h := mark_l0 l.length a ha hn l.length l 0 (by omega) (by omega) (by omega) rfl (fun j h => by simp at h)
  rwa [Int.add_zero] at h
theorem held_l0 (n : Nat) (a : Int) (ha : 0 ≤ a) (hn : a + n < 9223372036854775807) (d : Nat) : ∀ (i : Int), 0 ≤ i → i ≤ n → n - i = d →
    Ev (fun k => laws_heldInt64S.l0 k (marks a n) (a + i) i) (a + n) := by
  induction d with
  | zero =>
    intro i h0 h1 hd
    refine ev_k ?_
    simp only [laws_heldInt64S.l0]
    exact ev_neg (by rw [marks_length]; omega) (ev_some (by omega))
  | succ d ih =>
    intro i h0 h1 hd
    refine ev_k ?_
    simp only [laws_heldInt64S.l0]
    refine ev_pos (by rw [marks_length]; omega) (ev_pos h0 (ev_pos ?_ ?_))
    · have := marks_at a n i.toNat (by omega)
      simp only [rd, List.getD_eq_getElem?_getD, this, Option.getD_some]
      omega
    · rw [w64 (a := i + 1) (by omega) (by omega), w64 (a := a + i + 1) (by omega) (by omega), show a + i + 1 = a + (i + 1) by omega]
      exact ih (i + 1) (by omega) (by omega) (by omega)
theorem heldS (n : Nat) (a : Int) (ha : 0 ≤ a) (hn : a + n < 9223372036854775807) : Ev (fun k => laws_heldInt64S.f k (marks a n) a) (a + n) := by
  unfold laws_heldInt64S.f
  have h := held_l0 n a ha hn n 0 (by omega) (by omega) (by omega)
  rwa [Int.add_zero] at h
end Go.Proofs.Ytcffgfomicpbfaa.Q
namespace Go.Proofs.Ytcffgfomicpbfaa.Q
open Go Go.RowKit Go.Proofs.Ytcffgfomicpbfaa.P Go.Proofs.YtcffgfomicpbfaaW.PrintWords Go.Proofs.YtcffgfomicpbfaaW.PrintMore
def tot : List (List Int) → Nat
  | [] => 0
  | x :: xs => x.length + tot xs
def marksSS (a : Int) : List (List Int) → List (List Int)
  | [] => []
  | x :: xs => marks a x.length :: marksSS (a + x.length) xs
theorem tot_le (c : Nat) (l : List (List Int)) (h : ∀ x ∈ l, x.length ≤ c) : tot l ≤ l.length * c := by
  induction l with
  | nil => simp [tot]
  | cons x l ih =>
    have a := h x List.mem_cons_self
    have b := ih fun y hy => h y (List.mem_cons_of_mem _ hy)
    simp only [tot, List.length_cons, Nat.add_mul, Nat.one_mul]
    omega
theorem rdL1_at (pre suf : List (List Int)) (x : List Int) : rd_L1 (pre ++ x :: suf) (pre.length : Int) = x := by
  simp [rd_L1, List.getD_eq_getElem?_getD]
theorem set_mid (pre suf : List (List Int)) (x y : List Int) : (pre ++ x :: suf).set pre.length y = pre ++ y :: suf := by
  induction pre with
  | nil => rfl
  | cons z pre ih => simp only [List.cons_append, List.length_cons, List.set_cons_succ, ih]
theorem eqSS_self (l : List (List Int)) (hl : l.length < 9223372036854775807) (hx : ∀ x ∈ l, x.length < 9223372036854775807) : Ev (fun k => laws_eqInt64SS.f k l l) true := by
  have loop : ∀ suf pre : List (List Int), pre ++ suf = l → Ev (fun k => laws_eqInt64SS.l0 k l l (pre.length : Int)) true := by
    intro suf
    induction suf with
    | nil =>
      intro pre e
      rw [List.append_nil] at e
      refine ev_k ?_
      simp only [laws_eqInt64SS.l0]
      exact ev_neg (by rw [e]; omega) (Ev.now _)
    | cons x suf ih =>
      intro pre e
      have hlen : pre.length < l.length := by rw [← e]; simp
      have hr : rd_L1 l (pre.length : Int) = x := by rw [← e]; exact rdL1_at pre suf x
      have := ih (pre ++ [x]) (by rw [← e]; simp)
      rw [List.length_append, List.length_singleton, Int.natCast_add] at this
      refine ev_k ?_
      simp only [laws_eqInt64SS.l0, hr]
      rw [w64 (a := (pre.length : Int) + 1) (by omega) (by omega)]
      exact ev_pos (by omega) (ev_pos (by omega) (ev_pos (by omega) (Ev.bind (eqS_self x (hx x (by rw [← e]; simp))) (ev_pos rfl this))))
  unfold laws_eqInt64SS.f
  exact ev_pos rfl (loop l [] rfl)
theorem heldSS (l : List (List Int)) (a : Int) (ha : 0 ≤ a) (hn : a + tot l < 9223372036854775807) (hl : l.length < 9223372036854775807) : Ev (fun k => laws_heldInt64SS.f k (marksSS a l) a) (a + tot l) := by
  have loop : ∀ (suf pre : List (List Int)) (b : Int), 0 ≤ b → b + tot suf < 9223372036854775807 → pre.length + suf.length < 9223372036854775807 → Ev (fun k => laws_heldInt64SS.l0 k (pre ++ marksSS b suf) b (pre.length : Int)) (b + tot suf) := by
    intro suf
    induction suf with
    | nil =>
      intro pre b b0 b1 h
      simp only [marksSS, List.append_nil, tot]
      refine ev_k ?_
      simp only [laws_heldInt64SS.l0]
      exact ev_neg (by omega) (ev_some (by simp))
    | cons x suf ih =>
      intro pre b b0 b1 h
      simp only [tot, List.length_cons] at b1 h
      have := ih (pre ++ [marks b x.length]) (b + x.length) (by omega) (by omega) (by simp; omega)
      rw [List.length_append, List.length_singleton, Int.natCast_add, List.append_assoc, List.singleton_append] at this
      simp only [marksSS, tot]
      refine ev_k ?_
      simp only [laws_heldInt64SS.l0]
      rw [rdL1_at]
      rw [w64 (a := (pre.length : Int) + 1) (by omega) (by omega)]
      refine ev_pos (by simp only [List.length_append, List.length_cons]; omega) (ev_pos (by omega) (Ev.bind (heldS x.length b b0 (by omega)) (ev_neg (by omega) ?_)))
      rw [show b + ((x.length + tot suf : Nat) : Int) = b + x.length + tot suf by omega]
      exact this
  exact loop l [] a ha hn (by simpa using hl)
theorem markSS (l : List (List Int)) (a : Int) (ha : 0 ≤ a) (hn : a + tot l < 9223372036854775807) (hl : l.length < 9223372036854775807) : Ev (fun k => laws_markInt64SS.f k l a) (a + tot l, marksSS a l) := by
  have loop : ∀ (suf pre : List (List Int)) (b : Int) (n : Int), 0 ≤ b → b + tot suf < 9223372036854775807 → pre.length + suf.length < 9223372036854775807 → n = pre.length + suf.length → Ev (fun k => laws_markInt64SS.l0 k n (pre ++ suf) b (pre.length : Int)) (b + tot suf, pre ++ marksSS b suf) := by
    intro suf
    induction suf with
    | nil =>
      intro pre b n b0 b1 h e
      simp only [List.length_nil] at e
      simp only [marksSS, List.append_nil, tot]
      refine ev_k ?_
      simp only [laws_markInt64SS.l0]
      exact ev_neg (by omega) (ev_some (by simp))
    | cons x suf ih =>
      intro pre b n b0 b1 h e
      simp only [tot, List.length_cons] at b1 h e
      have := ih (pre ++ [marks b x.length]) (b + x.length) n (by omega) (by omega) (by simp; omega) (by simp; omega)
      rw [List.length_append, List.length_singleton, Int.natCast_add, List.append_assoc, List.singleton_append, List.append_assoc, List.singleton_append] at this
      simp only [marksSS, tot]
      refine ev_k ?_
      simp only [laws_markInt64SS.l0]
      rw [rdL1_at]
      rw [w64 (a := (pre.length : Int) + 1) (by omega) (by omega)]
      refine ev_pos (by omega) (ev_pos (by omega) (Ev.bind (markS x b b0 (by omega)) ?_))
      rw [show b + ((x.length + tot suf : Nat) : Int) = b + x.length + tot suf by omega, show (pre ++ x :: suf).set (pre.length : Int).toNat (marks b x.length) = pre ++ marks b x.length :: suf by rw [Int.toNat_natCast]; exact set_mid pre suf x _]
      exact this
  unfold laws_markInt64SS.f
  exact loop l [] a l.length ha hn (by simpa using hl) (by simp)
end Go.Proofs.Ytcffgfomicpbfaa.Q
namespace Go.Proofs.Ytcffgfomicpbfaa.Pure
open Go Go.RowKit Go.Proofs.Ytcffgfomicpbfaa.P Go.Proofs.YtcffgfomicpbfaaW.PrintWords Go.Proofs.YtcffgfomicpbfaaW.PrintLast Go.Proofs.YtcffgfomicpbfaaW.PrintMore Go.Proofs.Ytcffgfomicpbfaa.Q
theorem both (d k : Int) : ∃ r q, r.length ≤ 62 ∧ (∀ x ∈ r, x.length ≤ 10) ∧ Ev (fun z => spec_KautzWords.f z d k) (r, q) ∧ Ev (fun z => impl_KautzWords.f z d k) (r, q) := by
  obtain ⟨c, hs, hi, h0⟩ := kcodes d k
  unfold spec_KautzWords.f impl_KautzWords.f
  by_cases z : c = 0
  · obtain ⟨D, K, rfl, rfl, D1, D2, K1, K2, hb⟩ := h0 z
    have hn := kbound D1 K1 hb
    have ht := i_kautzWords D K (by omega) (by omega) hn
    have hl := s_list D D K true (by simp) (by omega) (by omega) (by omega) K [] (by simp) (hn K (Nat.le_refl _))
    refine ⟨_, 0, hn K (Nat.le_refl _), fun x hx => ?_, Ev.bind hs (ev_pos z (Ev.bind hl (Ev.now _))), Ev.bind hi (ev_pos z (Ev.bind ht (Ev.now _)))⟩
    have := (extW_len_pos hx).1
    omega
  · exact ⟨[], c, by simp, by simp, Ev.bind hs (ev_neg z (Ev.now _)), Ev.bind hi (ev_neg z (Ev.now _))⟩
theorem FnExactKautzWords : ∀ (a0 : Int) (a1 : Int), (Lit.int .i64 a0).wf = true → (Lit.int .i64 a1).wf = true → ∃ k, laws_FnExactKautzWords.f k a0 a1 = some true := by
  intro d k _ _
  refine Ev.rounds ?_
  unfold laws_FnExactKautzWords.f
  obtain ⟨g, q, hg, hx, h1, h2⟩ := both d k
  have ht := tot_le 10 g hx
  refine Ev.bind h1 (Ev.bind h2 (Ev.bind (eqSS_self g (by omega) fun x h => by have := hx x h; omega) (Ev.bind (markSS g 1 (by omega) (by omega) (by omega)) (Ev.bind (heldSS g 1 (by omega) (by omega) (by omega)) ?_))))
  exact ev_pos ⟨rfl, rfl, by omega, rfl⟩ (Ev.now _)
end Go.Proofs.Ytcffgfomicpbfaa.Pure
