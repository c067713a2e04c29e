/- The pure law and what it leans on, in one text (wip/bin/bundle). -/
import Derived.Test.YtcffgfomicpbfaaP13
import Derived.Test.YtcffgfomicpbfaaP20
import Derived.Test.YtcffgfomicpbfaaP21
import Derived.Test.YtcffgfomicpbfaaP10
import Derived.Test.YtcffgfomicpbfaaP16
import Derived.Test.YtcffgfomicpbfaaP17
import Derived.Test.YtcffgfomicpbfaaP9
import Derived.Test.YtcffgfomicpbfaaWA
import Derived.Test.YtcffgfomicpbfaaWBMore
import Derived.Test.YtcffgfomicpbfaaP15
import Derived.Test.YtcffgfomicpbfaaP8
import Derived.Test.YtcffgfomicpbfaaP14
import Derived.Test.YtcffgfomicpbfaaP7
import Derived.Test.YtcffgfomicpbfaaP6
import Derived.Test.YtcffgfomicpbfaaP1
import Derived.Test.YtcffgfomicpbfaaP11
import Derived.Test.YtcffgfomicpbfaaP12
import Derived.Test.YtcffgfomicpbfaaP18
import Derived.Test.YtcffgfomicpbfaaP19
import Derived.Laws.BitsLemmas
import Derived.Test.YtcffgfomicpbfaaP3
import Derived.Test.YtcffgfomicpbfaaP4
import Derived.Test.YtcffgfomicpbfaaP2
import Derived.Test.YtcffgfomicpbfaaP5
namespace Go.Proofs.Ytcffgfomicpbfaa.Q
open Go Go.RowKit Go.Proofs.YtcffgfomicpbfaaW.PrintWords Go.Proofs.YtcffgfomicpbfaaW.PrintMore
theorem ev_k {α : Type} {g : Nat → Option α} {r : α} (h : Ev (fun k => g (k + 1)) r) : Ev g r := Ev.step (fun _ => rfl) h
theorem ev_some {α : Type} {r s : α} (h : r = s) : Ev (fun _ => some r) s := h ▸ Ev.now r
theorem ev_pos {α : Type} {c : Prop} [Decidable c] {f g : Nat → Option α} {r : α} (h : c) (H : Ev f r) : Ev (fun k => if c then f k else g k) r :=
  Ev.congr (fun _ => if_pos h) H
theorem ev_neg {α : Type} {c : Prop} [Decidable c] {f g : Nat → Option α} {r : α} (h : ¬ c) (H : Ev g r) : Ev (fun k => if c then f k else g k) r :=
  Ev.congr (fun _ => if_neg h) H
theorem wf64 {a : Int} (h : (Lit.int .i64 a).wf = true) : -9223372036854775808 ≤ a ∧ a < 9223372036854775808 := by
  simp [Lit.wf, IntKind.min, IntKind.max, IntKind.signed, IntKind.bits] at h
  omega
theorem w64 {a : Int} (h0 : -9223372036854775808 ≤ a) (h1 : a < 9223372036854775808) : wrap64 a = a := by
  unfold wrap64
  omega
def Says (g : Nat → Option Bool) (P : Prop) : Prop := ∃ b : Bool, Ev g b ∧ (b = true ↔ P)
theorem says_iff {g : Nat → Option Bool} {P R : Prop} (h : P ↔ R) (H : Says g R) : Says g P := by
  obtain ⟨b, hb, e⟩ := H
  exact ⟨b, hb, e.trans h.symm⟩
theorem says_k {g : Nat → Option Bool} {P : Prop} (H : Says (fun k => g (k + 1)) P) : Says g P := by
  obtain ⟨b, hb, e⟩ := H
  exact ⟨b, ev_k hb, e⟩
theorem says_pos {c : Prop} [Decidable c] {f g : Nat → Option Bool} {P : Prop} (h : c) (H : Says f P) : Says (fun k => if c then f k else g k) P := by
  obtain ⟨b, hb, e⟩ := H
  exact ⟨b, ev_pos h hb, e⟩
theorem says_neg {c : Prop} [Decidable c] {f g : Nat → Option Bool} {P : Prop} (h : ¬ c) (H : Says g P) : Says (fun k => if c then f k else g k) P := by
  obtain ⟨b, hb, e⟩ := H
  exact ⟨b, ev_neg h hb, e⟩
theorem says_true {P : Prop} (h : P) : Says (fun _ => some true) P := ⟨true, Ev.now _, by simp [h]⟩
theorem says_false {P : Prop} (h : ¬ P) : Says (fun _ => some false) P := ⟨false, Ev.now _, by simp [h]⟩
theorem Says.yes {g : Nat → Option Bool} {P : Prop} (H : Says g P) (h : P) : Ev g true := by
  obtain ⟨b, hb, e⟩ := H
  rw [e.2 h] at hb
  exact hb
theorem Says.no {g : Nat → Option Bool} {P : Prop} (H : Says g P) (h : ¬ P) : Ev g false := by
  obtain ⟨b, hb, e⟩ := H
  cases b with
  | true => exact absurd (e.1 rfl) h
  | false => exact hb
end Go.Proofs.Ytcffgfomicpbfaa.Q
namespace Go.Proofs.Ytcffgfomicpbfaa.Q
open Go Go.RowKit
def nextsW (m : Nat) (kz : Bool) (t : List Int) : List (List Int) := ((List.range (m + 1)).filter fun (j : Nat) => !kz || decide (t.getLast? ≠ some (j : Int))).map fun (j : Nat) => t ++ [(j : Int)]
def extW (m : Nat) (kz : Bool) : Nat → List Int → List (List Int)
  | 0, b => [b]
  | j + 1, b => (nextsW m kz b).flatMap (extW m kz j)
theorem extW_succ (m : Nat) (kz : Bool) (j : Nat) : ∀ b, extW m kz (j + 1) b = (extW m kz j b).flatMap (nextsW m kz) := by
  induction j with
  | zero =>
    intro b
    have e : ∀ l : List (List Int), l.flatMap (fun t => [t]) = l := fun l => by
      induction l with
      | nil => rfl
      | cons a l ih => simp
    show (nextsW m kz b).flatMap (fun t => [t]) = _
    rw [e]
    simp [extW]
  | succ j ih =>
    intro b
    show (nextsW m kz b).flatMap (extW m kz (j + 1)) = ((nextsW m kz b).flatMap (extW m kz j)).flatMap (nextsW m kz)
    rw [List.flatMap_assoc]
    congr 1
    funext x
    exact ih x
def okW (m : Nat) (t : List Int) : Prop := ∀ x ∈ t, 0 ≤ x ∧ x ≤ (m : Int)
theorem nextsW_mem {m : Nat} {kz : Bool} {t u : List Int} (h : u ∈ nextsW m kz t) (ht : okW m t) : u.length = t.length + 1 ∧ okW m u := by
  obtain ⟨j, hj, rfl⟩ := List.mem_map.1 h
  have hj := List.mem_range.1 (List.mem_filter.1 hj).1
  refine ⟨by simp, fun x hx => ?_⟩
  rcases List.mem_append.1 hx with hx | hx
  · exact ht x hx
  · rw [List.mem_singleton.1 hx]
    omega
theorem extW_mem {m : Nat} {kz : Bool} (j : Nat) : ∀ {b u : List Int}, u ∈ extW m kz j b → okW m b → u.length = b.length + j ∧ okW m u := by
  induction j with
  | zero => intro b u h hb; rw [List.mem_singleton.1 h]; exact ⟨rfl, hb⟩
  | succ j ih =>
    intro b u h hb
    obtain ⟨t, ht, hu⟩ := List.mem_flatMap.1 h
    obtain ⟨h1, h2⟩ := nextsW_mem ht hb
    obtain ⟨h3, h4⟩ := ih hu h2
    exact ⟨by omega, h4⟩
theorem nextsW_length {m : Nat} {kz : Bool} (t : List Int) : (nextsW m kz t).length ≤ m + 1 := by
  unfold nextsW
  rw [List.length_map]
  have := List.length_filter_le (fun j : Nat => !kz || decide (t.getLast? ≠ some (j : Int))) (List.range (m + 1))
  simpa using this
theorem nextsW_kautz {m : Nat} {t : List Int} (ht : okW m t) (hne : t ≠ []) : (nextsW m true t).length ≤ m := by
  obtain ⟨x, hx⟩ : ∃ x, t.getLast? = some x := ⟨t.getLast hne, List.getLast?_eq_some_getLast hne⟩
  have hxm : x ∈ t := List.mem_of_getLast? hx
  have hr := ht x hxm
  unfold nextsW
  rw [List.length_map, hx]
  have : ¬ ((List.range (m + 1)).filter fun (j : Nat) => !true || decide (some x ≠ some (j : Int))).length = (List.range (m + 1)).length := by
    intro e
    have := (List.length_filter_eq_length_iff.1 e) x.toNat (List.mem_range.2 (by omega))
    simp at this
    omega
  have := List.length_filter_le (fun j : Nat => !true || decide (some x ≠ some (j : Int))) (List.range (m + 1))
  simp only [List.length_range] at *
  omega
theorem flatMap_len {α β : Type} (l : List α) (f : α → List β) (c : Nat) (h : ∀ x ∈ l, (f x).length ≤ c) : (l.flatMap f).length ≤ l.length * c := by
  induction l with
  | nil => simp
  | cons a l ih =>
    have h1 := h a (by simp)
    have h2 := ih fun x hx => h x (by simp [hx])
    rw [List.flatMap_cons, List.length_append, List.length_cons, Nat.add_mul]
    omega
theorem extW_kautz (m j : Nat) : (extW m true (j + 1) []).length ≤ (m + 1) * m ^ j := by
  induction j with
  | zero =>
    have : (extW m true 1 []).length ≤ 1 * (m + 1) := by
      rw [extW_succ]
      exact flatMap_len _ _ (m + 1) fun t _ => nextsW_length t
    simpa using this
  | succ j ih =>
    rw [extW_succ, Nat.pow_succ, ← Nat.mul_assoc]
    refine Nat.le_trans (flatMap_len _ _ m fun t ht => ?_) (Nat.mul_le_mul_right _ ih)
    obtain ⟨h1, h2⟩ := extW_mem (j + 1) ht (fun x hx => by cases hx)
    exact nextsW_kautz h2 (by rintro rfl; simp at h1)
end Go.Proofs.Ytcffgfomicpbfaa.Q
namespace Go.Proofs.Ytcffgfomicpbfaa.Q
open Go Go.RowKit Go.Proofs.Ytcffgfomicpbfaa.P Go.Proofs.YtcffgfomicpbfaaW.PrintWords Go.Proofs.YtcffgfomicpbfaaW.PrintMore
def nx (kz : Bool) (t : List Int) (x : Nat) : List (List Int) := ((List.range x).filter fun (j : Nat) => !kz || decide (t.getLast? ≠ some (j : Int))).map fun (j : Nat) => t ++ [(j : Int)]
theorem nx_all (m : Nat) (kz : Bool) (t : List Int) : nextsW m kz t = nx kz t (m + 1) := rfl
theorem nx_zero (kz : Bool) (t : List Int) : nx kz t 0 = [] := rfl
theorem nx_yes {kz : Bool} {t : List Int} {x : Nat} (h : kz = false ∨ t.getLast? ≠ some (x : Int)) : nx kz t (x + 1) = nx kz t x ++ [t ++ [(x : Int)]] := by
  unfold nx
  rw [List.range_succ, List.filter_append, List.map_append]
  congr 1
  rcases h with rfl | h
  · simp
  · simp [h]
theorem nx_no {kz : Bool} {t : List Int} {x : Nat} (hk : kz = true) (h : t.getLast? = some (x : Int)) : nx kz t (x + 1) = nx kz t x := by
  unfold nx
  rw [List.range_succ, List.filter_append, List.map_append]
  simp [hk, h]
theorem nx_prefix (kz : Bool) (t : List Int) (x d : Nat) : ∃ s, nx kz t (x + d) = nx kz t x ++ s := by
  induction d with
  | zero => exact ⟨[], by simp⟩
  | succ d ih =>
    obtain ⟨s, hs⟩ := ih
    rw [show x + (d + 1) = (x + d) + 1 by omega]
    by_cases h : kz = true ∧ t.getLast? = some ((x + d : Nat) : Int)
    · exact ⟨s, by rw [nx_no h.1 h.2, hs]⟩
    · refine ⟨s ++ [t ++ [((x + d : Nat) : Int)]], ?_⟩
      rw [nx_yes, hs, List.append_assoc]
      cases kz with
      | false => exact .inl rfl
      | true => exact .inr fun z => h ⟨rfl, z⟩
theorem nx_length (kz : Bool) (t : List Int) (x : Nat) : (nx kz t x).length ≤ x := by
  unfold nx
  rw [List.length_map]
  have := List.length_filter_le (fun j : Nat => !kz || decide (t.getLast? ≠ some (j : Int))) (List.range x)
  simpa using this
theorem nx_mem {kz : Bool} {t : List Int} {x m : Nat} (hx : x ≤ m) (h : kz = false ∨ t.getLast? ≠ some (x : Int)) : t ++ [(x : Int)] ∈ nextsW m kz t := by
  refine List.mem_map.2 ⟨x, List.mem_filter.2 ⟨List.mem_range.2 (by omega), ?_⟩, rfl⟩
  rcases h with rfl | h
  · simp
  · simp [h]
theorem mem_flatMap_le {α β : Type} {l : List α} (f : α → List β) {x : α} (h : x ∈ l) : (f x).length ≤ (l.flatMap f).length := by
  induction l with
  | nil => cases h
  | cons a l ih =>
    rw [List.flatMap_cons, List.length_append]
    rcases List.mem_cons.1 h with rfl | h
    · omega
    · have := ih h
      omega
theorem last_rd {t : List Int} (h : t ≠ []) (x : Int) : rd t ((t.length : Int) - 1) = x ↔ t.getLast? = some x := by
  have hp : 0 < t.length := List.length_pos_iff.2 h
  rw [List.getLast?_eq_getElem?, rd, List.getD_eq_getElem?_getD, show ((t.length : Int) - 1).toNat = t.length - 1 by omega, List.getElem?_eq_getElem (by omega)]
  simp
theorem extW_len_pos {m : Nat} {kz : Bool} {j : Nat} {x : List Int} (h : x ∈ extW m kz j []) : x.length = j ∧ okW m x := by
  obtain ⟨a, b⟩ := extW_mem j h (fun y hy => by cases hy)
  exact ⟨by simpa using a, b⟩
end Go.Proofs.Ytcffgfomicpbfaa.Q
namespace Go.Proofs.Ytcffgfomicpbfaa.Q
open Go Go.RowKit Go.Proofs.Ytcffgfomicpbfaa.P Go.Proofs.YtcffgfomicpbfaaW.PrintWords Go.Proofs.YtcffgfomicpbfaaW.PrintMore
theorem rdL1_mid (pre suf : List (List Int)) (x : List Int) : rd_L1 (pre ++ x :: suf) (pre.length : Int) = x := by
  simp [rd_L1, List.getD_eq_getElem?_getD]
theorem clone_some {l : List Int} (h : l.length < 17592186044416) : slices_Clone_int64_int64.f l = some l := by
  unfold slices_Clone_int64_int64.f
  rw [if_pos h]
theorem own_some {l : List Int} (h : l.length < 17592186044416) : spec_l01Own.f l = some l := by
  unfold spec_l01Own.f
  simp only [Option.bind_some, List.nil_append]
  rw [if_pos (by simp; omega)]
theorem i_kautzWords (m K : Nat) (hm : m ≤ 61) (hK : K ≤ 10) (hn : ∀ i, i ≤ K → (extW m true i []).length ≤ 62) : Ev (fun z => impl_kautzWords.f z (m : Int) (K : Int)) (extW m true K []) := by
  have outer : ∀ (d i : Nat), i + d = K → Ev (fun z => impl_kautzWords.l0 z (m : Int) (extW m true i []) (K : Int) (i : Int)) (extW m true K []) := by
    intro d
    induction d with
    | zero =>
      intro i hi
      refine ev_k ?_
      simp only [impl_kautzWords.l0]
      exact ev_neg (by omega) (ev_some (by rw [show i = K by omega]))
    | succ d ih =>
      intro i hi
      have h1 := ih (i + 1) (by omega)
      have hl := hn i (by omega)
      have hmem : ∀ x ∈ extW m true i [], x.length = i := fun x hx => (extW_len_pos hx).1
      rw [extW_succ] at h1
      have middle : ∀ suf pre : List (List Int), pre ++ suf = extW m true i [] → Ev (fun z => impl_kautzWords.l1 z (m : Int) (pre.flatMap (nextsW m true)) (K : Int) (i : Int) (extW m true i []) ((extW m true i []).length : Int) (pre.length : Int)) (extW m true K []) := by
        intro suf
        induction suf with
        | nil =>
          intro pre e
          rw [List.append_nil] at e
          refine ev_k ?_
          simp only [impl_kautzWords.l1]
          rw [w64 (a := (i : Int) + 1) (by omega) (by omega)]
          refine ev_neg (by rw [e]; omega) ?_
          rw [e]
          exact h1
        | cons t suf ihm =>
          intro pre e
          have h2 := ihm (pre ++ [t]) (by rw [← e]; simp)
          have hlen : pre.length < (extW m true i []).length := by rw [← e]; simp
          have hr : rd_L1 (extW m true i []) (pre.length : Int) = t := by rw [← e]; exact rdL1_mid pre suf t
          have ht := hmem t (by rw [← e]; simp)
          have hpre : (pre.flatMap (nextsW m true)).length ≤ 62 * 62 := Nat.le_trans (flatMap_len _ _ (m + 1) fun x _ => nextsW_length x) (Nat.mul_le_mul (by omega) (by omega))
          rw [List.length_append, List.length_singleton, Int.natCast_add, List.flatMap_append] at h2
          have inner : ∀ (f x : Nat), x + f = m + 1 → Ev (fun z => impl_kautzWords.l2 z (m : Int) (pre.flatMap (nextsW m true) ++ nx true t x) t (K : Int) (i : Int) (extW m true i []) ((extW m true i []).length : Int) (pre.length : Int) ((m : Int) + 1) (x : Int)) (extW m true K []) := by
            intro f
            induction f with
            | zero =>
              intro x hx
              refine ev_k ?_
              simp only [impl_kautzWords.l2]
              rw [w64 (a := (pre.length : Int) + 1) (by omega) (by omega)]
              refine ev_neg (by omega) ?_
              have : pre.flatMap (nextsW m true) ++ nx true t x = pre.flatMap (nextsW m true) ++ [t].flatMap (nextsW m true) := by
                rw [show x = m + 1 by omega, ← nx_all]
                simp
              rw [this]
              exact h2
            | succ f ihf =>
              intro x hx
              have h3 := ihf (x + 1) (by omega)
              have hb := nx_length true t x
              refine ev_k ?_
              simp only [impl_kautzWords.l2, clone_some (show t.length < 17592186044416 by omega), Option.bind_some]
              rw [w64 (a := (x : Int) + 1) (by omega) (by omega)]
              refine ev_pos (by omega) ?_
              by_cases z : (t.length : Int) = 0
              · rw [nx_yes (.inr (by rw [List.eq_nil_of_length_eq_zero (by omega : t.length = 0)]; simp)), ← List.append_assoc] at h3
                exact ev_pos z (ev_pos (by omega) (ev_pos (by rw [List.length_append]; omega) h3))
              · rw [w64 (a := (t.length : Int) - 1) (by omega) (by omega)]
                have tn : t ≠ [] := fun e => z (by rw [e]; rfl)
                refine ev_neg z (ev_pos (by omega) (ev_pos (by omega) ?_))
                by_cases y : rd t ((t.length : Int) - 1) = (x : Int)
                · rw [nx_no rfl ((last_rd tn _).1 y)] at h3
                  exact ev_pos y h3
                · rw [nx_yes (.inr fun q => y ((last_rd tn _).2 q)), ← List.append_assoc] at h3
                  exact ev_neg y (ev_pos (by omega) (ev_pos (by rw [List.length_append]; omega) h3))
          refine ev_k ?_
          simp only [impl_kautzWords.l1, hr]
          have := inner (m + 1) 0 (by omega)
          rw [nx_zero, List.append_nil] at this
          rw [w64 (a := (m : Int) + 1) (by omega) (by omega)]
          exact ev_pos (by omega) (ev_pos (by omega) (ev_pos (by omega) this))
      have := middle (extW m true i []) [] rfl
      refine ev_k ?_
      simp only [impl_kautzWords.l0]
      exact ev_pos (by omega) this
  unfold impl_kautzWords.f
  exact outer K 0 (by omega)
theorem s_list (m D K : Nat) (kz : Bool) (hD : (if kz then (D : Int) else (D : Int) - 1) = (m : Int)) (hD2 : D ≤ 62) (hm : m ≤ 61) (hK : K ≤ 10) (r : Nat) : ∀ b : List Int, b.length + r = K → (extW m kz r b).length ≤ 62 → Ev (fun z => spec_l08List.f z (D : Int) (K : Int) kz b) (extW m kz r b) := by
  induction r with
  | zero =>
    intro b hb _
    refine ev_k ?_
    simp only [spec_l08List.f, own_some (show b.length < 17592186044416 by omega), Option.bind_some]
    exact ev_pos (by omega) (Ev.now _)
  | succ r ih =>
    intro b hb hlen
    have hfl : extW m kz (r + 1) b = (nextsW m kz b).flatMap (extW m kz r) := rfl
    have loop : ∀ (f x : Nat), x + f = m + 1 → Ev (fun z => spec_l08List.l0 z (D : Int) (K : Int) kz b ((nx kz b x).flatMap (extW m kz r)) (m : Int) (x : Int)) (extW m kz (r + 1) b) := by
      intro f
      induction f with
      | zero =>
        intro x hx
        refine ev_k ?_
        simp only [spec_l08List.l0]
        exact ev_neg (by omega) (ev_some (by rw [hfl, nx_all, show x = m + 1 by omega]))
      | succ f ihf =>
        intro x hx
        have h3 := ihf (x + 1) (by omega)
        have yes : kz = false ∨ b.getLast? ≠ some (x : Int) → Ev (fun z => spec_l08List.j2 z (D : Int) (K : Int) kz b ((nx kz b x).flatMap (extW m kz r)) (m : Int) (x : Int) true) (extW m kz (r + 1) b) := by
          intro h
          have hmem := nx_mem (show x ≤ m by omega) h
          have hpart : (extW m kz r (b ++ [(x : Int)])).length ≤ 62 := by
            have := mem_flatMap_le (extW m kz r) hmem
            rw [hfl] at hlen
            omega
          have hacc : ((nx kz b x).flatMap (extW m kz r)).length ≤ 62 := by
            obtain ⟨s, hs⟩ := nx_prefix kz b x (m + 1 - x)
            rw [show x + (m + 1 - x) = m + 1 by omega] at hs
            rw [hfl, nx_all, hs, List.flatMap_append, List.length_append] at hlen
            omega
          have hrec := ih (b ++ [(x : Int)]) (by simp; omega) hpart
          rw [nx_yes h, List.flatMap_append, show [b ++ [(x : Int)]].flatMap (extW m kz r) = extW m kz r (b ++ [(x : Int)]) by simp] at h3
          refine ev_k ?_
          simp only [spec_l08List.j2, own_some (show b.length < 17592186044416 by omega), Option.bind_some]
          rw [w64 (a := (x : Int) + 1) (by omega) (by omega)]
          exact ev_pos trivial (ev_pos (by omega) (Ev.bind hrec (ev_pos (by omega) h3)))
        have no : kz = true → b.getLast? = some (x : Int) → Ev (fun z => spec_l08List.j2 z (D : Int) (K : Int) kz b ((nx kz b x).flatMap (extW m kz r)) (m : Int) (x : Int) false) (extW m kz (r + 1) b) := by
          intro h h'
          rw [nx_no h h'] at h3
          refine ev_k ?_
          simp only [spec_l08List.j2]
          rw [w64 (a := (x : Int) + 1) (by omega) (by omega)]
          exact ev_neg (by simp) h3
        refine ev_k ?_
        simp only [spec_l08List.l0]
        refine ev_pos (by omega) ?_
        by_cases hk : kz = true
        · refine ev_pos hk ?_
          by_cases z : (b.length : Int) = 0
          · exact ev_pos z (yes (.inr (by rw [List.eq_nil_of_length_eq_zero (by omega : b.length = 0)]; simp)))
          · rw [w64 (a := (b.length : Int) - 1) (by omega) (by omega)]
            have tn : b ≠ [] := fun e => z (by rw [e]; rfl)
            refine ev_neg z (ev_pos (by omega) (ev_pos (by omega) ?_))
            by_cases y : rd b ((b.length : Int) - 1) = (x : Int)
            · rw [show (rd b ((b.length : Int) - 1) != (x : Int)) = false by simp [y]]
              exact no hk ((last_rd tn _).1 y)
            · rw [show (rd b ((b.length : Int) - 1) != (x : Int)) = true by simp [y]]
              exact yes (.inr fun q => y ((last_rd tn _).2 q))
        · exact ev_neg hk (yes (.inl (by simpa using hk)))
    have h0 := loop (m + 1) 0 (by omega)
    rw [nx_zero] at h0
    refine ev_k ?_
    simp only [spec_l08List.f, Option.bind_some]
    refine ev_neg (by omega) ?_
    have hj : ∀ q : Int, q = (m : Int) → Ev (fun z => spec_l08List.j0 z (D : Int) (K : Int) kz b [] q) (extW m kz (r + 1) b) := by
      intro q hq
      rw [hq]
      refine ev_k ?_
      simp only [spec_l08List.j0]
      exact h0
    by_cases hk : kz = true
    · rw [if_pos hk] at hD
      exact ev_pos hk (hj _ hD)
    · rw [if_neg hk] at hD
      refine ev_neg hk ?_
      rw [w64 (a := (D : Int) - 1) (by omega) (by omega)]
      exact hj _ hD
end Go.Proofs.Ytcffgfomicpbfaa.Q
namespace Go.Proofs.Ytcffgfomicpbfaa.Q
open Go Go.RowKit Go.Proofs.Ytcffgfomicpbfaa.P
theorem s_in (a b c : Int) : spec_l01In.f a b c = some (decide (b ≤ a ∧ a ≤ c)) := by
  unfold spec_l01In.f
  split
  · exact congrArg some (decide_eq_decide.2 (by omega))
  · exact congrArg some (decide_eq_false (by omega)).symm
end Go.Proofs.Ytcffgfomicpbfaa.Q
namespace Go.Proofs.Ytcffgfomicpbfaa.Q
open Go Go.RowKit Go.Proofs.Ytcffgfomicpbfaa.P Go.Proofs.YtcffgfomicpbfaaW.PrintWords Go.Proofs.YtcffgfomicpbfaaW.PrintMore
theorem cap_step (c D : Nat) (hD : 1 ≤ D) : min (min c 63 * D) 63 = min (c * D) 63 := by
  by_cases h : c ≤ 63
  · rw [Nat.min_eq_left h]
  · have h1 : 63 ≤ 63 * D := Nat.le_mul_of_pos_right _ hD
    have h2 : 63 ≤ c * D := Nat.le_trans (by omega : 63 ≤ c) (Nat.le_mul_of_pos_right _ hD)
    rw [Nat.min_eq_right (by omega : 63 ≤ c), Nat.min_eq_right h1, Nat.min_eq_right h2]
theorem mn_step (c D : Nat) (hD : 1 ≤ D) (h2 : D ≤ 62) : mn (wrap64 (((min c 63 : Nat) : Int) * (D : Int))) 63 = ((min (c * D) 63 : Nat) : Int) := by
  have b : min c 63 * D ≤ 63 * 62 := Nat.mul_le_mul (Nat.min_le_right _ _) h2
  rw [← cap_step c D hD, show ((min c 63 : Nat) : Int) * (D : Int) = ((min c 63 * D : Nat) : Int) by simp]
  generalize min c 63 * D = x at *
  rw [w64 (by omega) (by omega)]
  unfold mn
  split <;> omega
theorem i_capped (D K : Nat) (hD : 1 ≤ D) (h2 : D ≤ 62) (hK : K ≤ 10) : Ev (fun z => impl_capped.f z (D : Int) (K : Int) 62) ((min (D ^ K) 63 : Nat) : Int) := by
  have loop : ∀ (d i : Nat), i + d = K → Ev (fun z => impl_capped.l0 z (D : Int) 62 ((min (D ^ i) 63 : Nat) : Int) (K : Int) (i : Int)) ((min (D ^ K) 63 : Nat) : Int) := by
    intro d
    induction d with
    | zero =>
      intro i hi
      refine ev_k ?_
      simp only [impl_capped.l0]
      exact ev_neg (by omega) (ev_some (by rw [show i = K by omega]))
    | succ d ih =>
      intro i hi
      have := ih (i + 1) (by omega)
      refine ev_k ?_
      simp only [impl_capped.l0]
      refine ev_pos (by omega) ?_
      rw [w64 (a := (i : Int) + 1) (by omega) (by omega), show wrap64 (62 + 1) = 63 from by simp [wrap64], mn_step _ D hD h2, ← Nat.pow_succ]
      exact this
  unfold impl_capped.f
  have := loop K 0 (by omega)
  simpa using this
theorem s_words (c D : Nat) (hD : 1 ≤ D) (h2 : D ≤ 62) (d : Nat) : ∀ i : Nat, d ≤ 10 → Ev (fun z => spec_l08Words.l0 z (D : Int) ((d : Int) + 1) ((min (c * D ^ i) 63 : Nat) : Int)) ((min (c * D ^ (i + d)) 63 : Nat) : Int) := by
  induction d with
  | zero =>
    intro i _
    refine ev_k ?_
    simp only [spec_l08Words.l0]
    exact ev_neg (by omega) (Ev.now _)
  | succ d ih =>
    intro i hd
    have := ih (i + 1) (by omega)
    refine ev_k ?_
    simp only [spec_l08Words.l0]
    refine ev_pos (by omega) ?_
    rw [w64 (a := ((d + 1 : Nat) : Int) + 1 - 1) (by omega) (by omega), mn_step _ D hD h2, Nat.mul_assoc, ← Nat.pow_succ, show ((d + 1 : Nat) : Int) + 1 - 1 = (d : Int) + 1 by omega]
    rw [show i + 1 + d = i + (d + 1) by omega] at this
    exact this
theorem s_count (D K : Nat) (kz : Bool) (hD : 1 ≤ D) (h2 : D ≤ 62) (hK : 1 ≤ K) (hK2 : K ≤ 10) : Ev (fun z => spec_l08Words.f z (D : Int) (K : Int) kz) ((min ((if kz then D + 1 else D) * D ^ (K - 1)) 63 : Nat) : Int) := by
  have e : (K : Int) = ((K - 1 : Nat) : Int) + 1 := by omega
  unfold spec_l08Words.f
  cases kz with
  | true =>
    refine ev_pos rfl (ev_k ?_)
    simp only [spec_l08Words.j0]
    rw [w64 (a := (D : Int) + 1) (by omega) (by omega)]
    have := s_words (D + 1) D hD h2 (K - 1) 0 (by omega)
    rw [Nat.pow_zero, Nat.mul_one, Nat.min_eq_left (by omega), Nat.zero_add] at this
    rw [e]
    exact this
  | false =>
    refine ev_neg (by decide) (ev_k ?_)
    simp only [spec_l08Words.j0]
    have := s_words D D hD h2 (K - 1) 0 (by omega)
    rw [Nat.pow_zero, Nat.mul_one, Nat.min_eq_left (by omega), Nat.zero_add] at this
    rw [e]
    exact this
end Go.Proofs.Ytcffgfomicpbfaa.Q
namespace Go.Proofs.Ytcffgfomicpbfaa.Q
open Go Go.RowKit Go.Proofs.Ytcffgfomicpbfaa.P Go.Proofs.YtcffgfomicpbfaaW.PrintWords Go.Proofs.YtcffgfomicpbfaaW.PrintMore
theorem kcodes (d k : Int) : ∃ c, Ev (fun z => spec_l08Kautz.f z d k) c ∧ Ev (fun z => impl_kautzCode.f z d k) c ∧ (c = 0 → ∃ D K : Nat, d = D ∧ k = K ∧ 1 ≤ D ∧ D ≤ 61 ∧ 1 ≤ K ∧ K ≤ 10 ∧ (D + 1) * D ^ (K - 1) ≤ 62) := by
  have ij : ∀ (b : Bool) (q : Int), Ev (fun z => impl_kautzCode.j0 z d k b) q → (b = true → d < 1 ∨ d > 61 ∨ k < 1 ∨ k > 10) → (b = false → ¬ (d < 1 ∨ d > 61 ∨ k < 1 ∨ k > 10)) → Ev (fun z => impl_kautzCode.f z d k) q := by
    intro b q h h1 h2
    unfold impl_kautzCode.f
    by_cases c1 : d < 1
    · obtain rfl : b = true := by cases b with | true => rfl | false => exact absurd (.inl c1) (h2 rfl)
      exact ev_pos c1 h
    refine ev_neg c1 ?_
    by_cases c2 : d > 61
    · obtain rfl : b = true := by cases b with | true => rfl | false => exact absurd (.inr (.inl c2)) (h2 rfl)
      exact ev_pos c2 h
    refine ev_neg c2 ?_
    by_cases c3 : k < 1
    · obtain rfl : b = true := by cases b with | true => rfl | false => exact absurd (.inr (.inr (.inl c3))) (h2 rfl)
      exact ev_pos c3 h
    refine ev_neg c3 ?_
    have : b = decide (k > 10) := by
      cases b with
      | true => have := h1 rfl; exact (decide_eq_true (by omega)).symm
      | false => have := h2 rfl; exact (decide_eq_false (by omega)).symm
    rw [← this]
    exact h
  have sj : ∀ (b : Bool) (q : Int), Ev (fun z => spec_l08Kautz.j0 z d k b) q → (b = true → d < 1 ∨ d > 61 ∨ k < 1 ∨ k > 10) → (b = false → ¬ (d < 1 ∨ d > 61 ∨ k < 1 ∨ k > 10)) → Ev (fun z => spec_l08Kautz.f z d k) q := by
    intro b q h h1 h2
    unfold spec_l08Kautz.f
    simp only [s_in, Option.bind_some]
    by_cases c1 : 1 ≤ d ∧ d ≤ 61
    · refine ev_pos (decide_eq_true c1) ?_
      have : b = !(decide (1 ≤ k ∧ k ≤ 10)) := by
        cases b with
        | true => have := h1 rfl; rw [decide_eq_false (by omega)]; rfl
        | false => have := h2 rfl; rw [decide_eq_true (by omega)]; rfl
      rw [← this]
      exact h
    · obtain rfl : b = true := by cases b with | true => rfl | false => exact absurd (by omega) (h2 rfl)
      exact ev_neg (by simpa using c1) h
  by_cases c : d < 1 ∨ d > 61 ∨ k < 1 ∨ k > 10
  · refine ⟨2, sj true _ (ev_k ?_) (fun _ => c) (by simp), ij true _ (ev_k ?_) (fun _ => c) (by simp), by simp⟩
    · simp only [spec_l08Kautz.j0]
      exact ev_pos trivial (Ev.now _)
    · simp only [impl_kautzCode.j0]
      exact ev_pos trivial (Ev.now _)
  · obtain ⟨D, rfl⟩ := Int.eq_ofNat_of_zero_le (show 0 ≤ d by omega)
    obtain ⟨K, rfl⟩ := Int.eq_ofNat_of_zero_le (show 0 ≤ k by omega)
    have hi := i_capped D (K - 1) (by omega) (by omega) (by omega)
    have hs := s_count D K true (by omega) (by omega) (by omega) (by omega)
    rw [if_pos rfl] at hs
    have e1 : wrap64 ((K : Int) - 1) = ((K - 1 : Nat) : Int) := by rw [w64 (by omega) (by omega)]; omega
    have e2 : wrap64 ((D : Int) + 1) = ((D + 1 : Nat) : Int) := by rw [w64 (by omega) (by omega)]; omega
    have b : (D + 1) * min (D ^ (K - 1)) 63 ≤ 62 * 63 := Nat.mul_le_mul (by omega) (Nat.min_le_right _ _)
    have e3 : wrap64 (((D + 1 : Nat) : Int) * ((min (D ^ (K - 1)) 63 : Nat) : Int)) = (((D + 1) * min (D ^ (K - 1)) 63 : Nat) : Int) := by
      rw [show ((D + 1 : Nat) : Int) * ((min (D ^ (K - 1)) 63 : Nat) : Int) = (((D + 1) * min (D ^ (K - 1)) 63 : Nat) : Int) by simp]
      generalize (D + 1) * min (D ^ (K - 1)) 63 = x at *
      exact w64 (by omega) (by omega)
    have ht : (D + 1) * min (D ^ (K - 1)) 63 > 62 ↔ (D + 1) * D ^ (K - 1) > 62 := by
      by_cases h : D ^ (K - 1) ≤ 63
      · rw [Nat.min_eq_left h]
      · have h1 : 63 ≤ (D + 1) * 63 := Nat.le_mul_of_pos_left _ (by omega)
        have h2 : D ^ (K - 1) ≤ (D + 1) * D ^ (K - 1) := Nat.le_mul_of_pos_left _ (by omega)
        rw [Nat.min_eq_right (by omega)]
        omega
    by_cases cl : 62 < (D + 1) * D ^ (K - 1)
    · refine ⟨3, sj false _ (ev_k ?_) (by simp) (fun _ => c), ij false _ (ev_k ?_) (by simp) (fun _ => c), by simp⟩
      · simp only [spec_l08Kautz.j0]
        exact ev_neg (by simp) (Ev.bind hs (ev_pos (by omega) (Ev.now _)))
      · simp only [impl_kautzCode.j0]
        refine ev_neg (by simp) ?_
        rw [e1]
        refine Ev.bind hi ?_
        rw [e2, e3]
        exact ev_pos (by have := ht.2 cl; omega) (Ev.now _)
    · refine ⟨0, sj false _ (ev_k ?_) (by simp) (fun _ => c), ij false _ (ev_k ?_) (by simp) (fun _ => c), fun _ => ⟨D, K, rfl, rfl, by omega, by omega, by omega, by omega, by omega⟩⟩
      · simp only [spec_l08Kautz.j0]
        exact ev_neg (by simp) (Ev.bind hs (ev_neg (by omega) (Ev.now _)))
      · simp only [impl_kautzCode.j0]
        refine ev_neg (by simp) ?_
        rw [e1]
        refine Ev.bind hi ?_
        rw [e2, e3]
        exact ev_neg (by have : ¬ (D + 1) * min (D ^ (K - 1)) 63 > 62 := fun z => cl (ht.1 z); omega) (Ev.now _)
theorem kbound {D K : Nat} (h1 : 1 ≤ D) (hK : 1 ≤ K) (h : (D + 1) * D ^ (K - 1) ≤ 62) (i : Nat) (hi : i ≤ K) : (extW D true i []).length ≤ 62 := by
  cases i with
  | zero => simp [extW]
  | succ j =>
    have a := extW_kautz D j
    have b : D ^ j ≤ D ^ (K - 1) := Nat.pow_le_pow_right h1 (by omega)
    have c : (D + 1) * D ^ j ≤ (D + 1) * D ^ (K - 1) := Nat.mul_le_mul_left _ b
    omega
end Go.Proofs.Ytcffgfomicpbfaa.Q
namespace Go.Proofs.Ytcffgfomicpbfaa.Q
open Go Go.RowKit Go.Proofs.Ytcffgfomicpbfaa.P Go.Proofs.YtcffgfomicpbfaaW.PrintWords Go.Proofs.YtcffgfomicpbfaaW.PrintMore
theorem foll_iff {a b : List Int} (e : a.length = b.length) (p : 0 < a.length) : (∀ i : Int, 1 ≤ i → i < a.length → rd a i = rd b (i - 1)) ↔ a.drop 1 = b.take (b.length - 1) := by
  constructor
  · intro h
    refine List.ext_getElem (by simp only [List.length_drop, List.length_take]; omega) fun j h1 h2 => ?_
    simp only [List.length_drop] at h1
    have := h (j + 1) (by omega) (by omega)
    rw [show ((j : Int) + 1 - 1) = j by omega] at this
    simp only [rd, List.getD_eq_getElem?_getD, Int.toNat_natCast, show ((j : Int) + 1).toNat = 1 + j by omega] at this
    rw [List.getElem?_eq_getElem (by omega), List.getElem?_eq_getElem (by omega)] at this
    simpa [Nat.add_comm] using this
  · intro h i i1 i2
    have := congrArg (fun l : List Int => l[(i - 1).toNat]?) h
    simp only [List.getElem?_drop, List.getElem?_take] at this
    rw [if_pos (by omega), show 1 + (i - 1).toNat = i.toNat by omega] at this
    simp only [rd, List.getD_eq_getElem?_getD, this]
end Go.Proofs.Ytcffgfomicpbfaa.Q
namespace Go.Proofs.Ytcffgfomicpbfaa.Q
open Go Go.RowKit Go.Proofs.YtcffgfomicpbfaaW.PrintWords Go.Proofs.YtcffgfomicpbfaaW.PrintLast Go.Proofs.YtcffgfomicpbfaaW.PrintMore
def tb (x i : Int) : Bool := decide (x / 2 ^ i.toNat % 2 = 1)
theorem wu64 {a : Int} (h0 : 0 ≤ a) (h1 : a < 18446744073709551616) : IntKind.u64.wrap a = a := by
  simp [IntKind.wrap, IntKind.bits, IntKind.signed]
  omega
theorem w64' (a : Int) : IntKind.i64.wrap a = wrap64 a := by
  rw [IntKind.wrap_i64]
  unfold wrap64
  rfl
theorem two_pow_le {n : Int} (h0 : 0 ≤ n) (h1 : n ≤ 62) : (1 : Int) ≤ 2 ^ n.toNat ∧ (2 : Int) ^ n.toNat ≤ 4611686018427387904 := by
  have e : ((2 : Int) ^ n.toNat) = ((2 ^ n.toNat : Nat) : Int) := by simp
  have a : 2 ^ n.toNat ≤ 2 ^ 62 := Nat.pow_le_pow_right (by decide) (by omega)
  have b : 1 ≤ 2 ^ n.toNat := Nat.one_le_two_pow
  rw [e]
  omega
theorem shl_one {n : Int} (h0 : 0 ≤ n) (h1 : n ≤ 62) : shl .i64 1 n = 2 ^ n.toNat := by
  have := two_pow_le h0 h1
  unfold shl
  rw [Nat.min_eq_left (by simp [IntKind.bits]; omega), Int.one_mul, w64', w64] <;> omega
theorem tb_nat (x i : Nat) : tb (x : Int) (i : Int) = x.testBit i := by
  unfold tb
  rw [Nat.testBit_eq_decide_div_mod_eq]
  have : ((x : Int) / 2 ^ i) % 2 = ((x / 2 ^ i % 2 : Nat) : Int) := by simp
  rw [Int.toNat_natCast, this]
  exact decide_eq_decide.2 (by omega)
theorem tb_toNat {x i : Int} (h0 : 0 ≤ x) (i0 : 0 ≤ i) : tb x i = x.toNat.testBit i.toNat := by
  rw [← tb_nat, Int.toNat_of_nonneg h0, Int.toNat_of_nonneg i0]
theorem tb_high {x i n : Int} (h0 : 0 ≤ x) (h1 : x < 2 ^ n.toNat) (n0 : 0 ≤ n) (hi : n ≤ i) : tb x i = false := by
  rw [tb_toNat h0 (by omega)]
  refine Nat.testBit_lt_two_pow ?_
  have e : ((2 : Int) ^ n.toNat) = ((2 ^ n.toNat : Nat) : Int) := by simp
  rw [e] at h1
  have : x.toNat < 2 ^ n.toNat := by omega
  exact Nat.lt_of_lt_of_le this (Nat.pow_le_pow_right (by decide) (by omega))
theorem tb_ext {x y n : Int} (x0 : 0 ≤ x) (x1 : x < 2 ^ n.toNat) (y0 : 0 ≤ y) (y1 : y < 2 ^ n.toNat) (n0 : 0 ≤ n) (h : ∀ i, 0 ≤ i → i < n → tb x i = tb y i) : x = y := by
  have : x.toNat = y.toNat := by
    refine Nat.eq_of_testBit_eq fun i => ?_
    by_cases hi : (i : Int) < n
    · have := h i (by omega) hi
      rwa [tb_toNat x0 (by omega), tb_toNat y0 (by omega), Int.toNat_natCast] at this
    · have a := tb_high (i := i) x0 x1 n0 (by omega)
      have b := tb_high (i := i) y0 y1 n0 (by omega)
      rw [tb_toNat x0 (by omega), Int.toNat_natCast] at a
      rw [tb_toNat y0 (by omega), Int.toNat_natCast] at b
      rw [a, b]
  omega
theorem or_nat (a b : Nat) (ha : a < 2 ^ 63) (hb : b < 2 ^ 63) : bits .or .i64 a b = ((a ||| b : Nat) : Int) :=
  (bits_nat .i64 63 (by decide) (fun n h0 h1 => by rw [w64', w64] <;> omega) a b ha hb).2
end Go.Proofs.Ytcffgfomicpbfaa.Q
namespace Go.Proofs.Ytcffgfomicpbfaa.Q
open Go Go.RowKit Go.Proofs.YtcffgfomicpbfaaW.PrintWords
end Go.Proofs.Ytcffgfomicpbfaa.Q
namespace Go.Proofs.Ytcffgfomicpbfaa.Q
open Go Go.RowKit Go.Proofs.YtcffgfomicpbfaaW.PrintWords Go.Proofs.YtcffgfomicpbfaaW.PrintMore
def Mx (n : Int) (l : List Int) (P : Int → Int → Prop) : Prop := (l.length : Int) = n ∧ ∀ v, 0 ≤ v → v < n → (0 ≤ rd l v ∧ rd l v < 2 ^ n.toNat) ∧ ∀ w, 0 ≤ w → w < n → (tb (rd l v) w = true ↔ P v w)
theorem Mx.imp {n : Int} {l : List Int} {P Q : Int → Int → Prop} (h : Mx n l P) (e : ∀ v w, 0 ≤ v → v < n → 0 ≤ w → w < n → (P v w ↔ Q v w)) : Mx n l Q :=
  ⟨h.1, fun v v0 v1 => ⟨(h.2 v v0 v1).1, fun w w0 w1 => ((h.2 v v0 v1).2 w w0 w1).trans (e v w v0 v1 w0 w1)⟩⟩
theorem rd_ext {a b : List Int} (hl : a.length = b.length) (h : ∀ v : Int, 0 ≤ v → v < a.length → rd a v = rd b v) : a = b := by
  refine List.ext_getElem hl fun i h1 h2 => ?_
  have := h i (by omega) (by omega)
  simpa [rd, List.getD_eq_getElem?_getD, h1, h2] using this
theorem Mx.eq {n : Int} {a b : List Int} {P : Int → Int → Prop} (ha : Mx n a P) (hb : Mx n b P) (n0 : 0 ≤ n) : a = b := by
  refine rd_ext (by have := ha.1; have := hb.1; omega) fun v v0 v1 => ?_
  have v1 : v < n := by have := ha.1; omega
  obtain ⟨⟨a0, a1⟩, a2⟩ := ha.2 v v0 v1
  obtain ⟨⟨b0, b1⟩, b2⟩ := hb.2 v v0 v1
  exact tb_ext a0 a1 b0 b1 n0 fun i i0 i1 => Bool.eq_iff_iff.2 ((a2 i i0 i1).trans (b2 i i0 i1).symm)
theorem Mx.zero (n : Int) (n0 : 0 ≤ n) : Mx n (List.replicate n.toNat 0) (fun _ _ => False) := by
  refine ⟨by simp; omega, fun v v0 v1 => ?_⟩
  have e : rd (List.replicate n.toNat 0) v = 0 := by
    have : v.toNat < n.toNat := by omega
    simp [rd, List.getD_eq_getElem?_getD, this]
  rw [e]
  have p : (0 : Int) < 2 ^ n.toNat := Int.pow_pos (by decide)
  refine ⟨⟨by omega, p⟩, fun w w0 w1 => ?_⟩
  simp [tb]
theorem rd_set {l : List Int} {i j : Int} (x : Int) (i0 : 0 ≤ i) (i1 : i < l.length) (j0 : 0 ≤ j) : rd (l.set i.toNat x) j = if j = i then x else rd l j := by
  simp only [rd, List.getD_eq_getElem?_getD, List.getElem?_set]
  by_cases h : j = i
  · subst h
    rw [if_pos rfl, if_pos rfl, if_pos (by omega)]
    rfl
  · rw [if_neg h, if_neg (by omega)]
theorem or_one {n x j : Int} (n2 : n ≤ 62) (x0 : 0 ≤ x) (x1 : x < 2 ^ n.toNat) (j0 : 0 ≤ j) (j1 : j < n) : (0 ≤ bits .or .i64 x (shl .i64 1 j) ∧ bits .or .i64 x (shl .i64 1 j) < 2 ^ n.toNat) ∧ ∀ w, 0 ≤ w → (tb (bits .or .i64 x (shl .i64 1 j)) w = true ↔ tb x w = true ∨ w = j) := by
  have e : ((2 : Int) ^ n.toNat) = ((2 ^ n.toNat : Nat) : Int) := by simp
  have p : 2 ^ n.toNat ≤ 2 ^ 62 := Nat.pow_le_pow_right (by decide) (by omega)
  have q : 2 ^ j.toNat < 2 ^ n.toNat := Nat.pow_lt_pow_right (by decide) (by omega)
  rw [e] at x1 ⊢
  obtain ⟨y, rfl⟩ := Int.eq_ofNat_of_zero_le x0
  rw [shl_one j0 (by omega), show ((2 : Int) ^ j.toNat) = ((2 ^ j.toNat : Nat) : Int) by simp, or_nat y (2 ^ j.toNat) (by omega) (by omega)]
  refine ⟨⟨by omega, ?_⟩, fun w w0 => ?_⟩
  · have := Nat.or_lt_two_pow (show y < 2 ^ n.toNat by omega) q
    omega
  · obtain ⟨w, rfl⟩ := Int.eq_ofNat_of_zero_le w0
    rw [tb_nat, tb_nat, Nat.testBit_or, Nat.testBit_two_pow]
    simp only [Bool.or_eq_true, decide_eq_true_eq]
    refine or_congr Iff.rfl ?_
    omega
theorem Mx.or {n : Int} {l : List Int} {P : Int → Int → Prop} (h : Mx n l P) (n2 : n ≤ 62) {i j : Int} (i0 : 0 ≤ i) (i1 : i < n) (j0 : 0 ≤ j) (j1 : j < n) : Mx n (l.set i.toNat (bits .or .i64 (rd l i) (shl .i64 1 j))) (fun v w => P v w ∨ (v = i ∧ w = j)) := by
  refine ⟨by simpa using h.1, fun v v0 v1 => ?_⟩
  rw [rd_set _ i0 (by have := h.1; omega) v0]
  obtain ⟨⟨a0, a1⟩, a2⟩ := h.2 v v0 v1
  by_cases hv : v = i
  · rw [if_pos hv]
    subst hv
    obtain ⟨b, b2⟩ := or_one n2 a0 a1 j0 j1
    exact ⟨b, fun w w0 w1 => (b2 w w0).trans (or_congr (a2 w w0 w1) (by simp))⟩
  · rw [if_neg hv]
    exact ⟨⟨a0, a1⟩, fun w w0 w1 => (a2 w w0 w1).trans (by simp [hv])⟩
end Go.Proofs.Ytcffgfomicpbfaa.Q
namespace Go.Proofs.Ytcffgfomicpbfaa.Q
open Go Go.RowKit Go.Proofs.Ytcffgfomicpbfaa.P Go.Proofs.YtcffgfomicpbfaaW.PrintWords Go.Proofs.YtcffgfomicpbfaaW.PrintMore
theorem i_directed (n : Int) (n0 : 0 ≤ n) (n2 : n ≤ 62) (is_ : Int → Int → Option Bool) (Q : Int → Int → Prop) (hq : ∀ v w, 0 ≤ v → v < n → 0 ≤ w → w < n → ∃ b, is_ v w = some b ∧ (b = true ↔ Q v w)) : ∃ r, Mx n r Q ∧ Ev (fun k => impl_directed.f is_ k n) (n, r) := by
  have outer : ∀ (d : Nat) (v : Int) (l : List Int), 0 ≤ v → v ≤ n → n - v = d → Mx n l (fun a b => a < v ∧ Q a b) → ∃ r, Mx n r Q ∧ Ev (fun k => impl_directed.l0 is_ k n n v n l) (n, r) := by
    intro d
    induction d with
    | zero =>
      intro v l v0 v1 hd hm
      refine ⟨l, hm.imp fun a b a0 a1 _ _ => ⟨fun z => z.2, fun z => ⟨by omega, z⟩⟩, ev_k ?_⟩
      simp only [impl_directed.l0]
      exact ev_neg (by omega) (Ev.now _)
    | succ d ih =>
      intro v l v0 v1 hd hm
      have inner : ∀ (e : Nat) (w : Int) (l : List Int), 0 ≤ w → w ≤ n → n - w = e → Mx n l (fun a b => (a < v ∨ (a = v ∧ b < w)) ∧ Q a b) → ∃ r, Mx n r Q ∧ Ev (fun k => impl_directed.l1 is_ k n v n v n w n l) (n, r) := by
        intro e
        induction e with
        | zero =>
          intro w l w0 w1 he hm
          obtain ⟨r, hr, hx⟩ := ih (v + 1) l (by omega) (by omega) (by omega) (hm.imp fun a b a0 a1 b0 b1 => and_congr ⟨fun _ => by omega, fun _ => by omega⟩ Iff.rfl)
          refine ⟨r, hr, ev_k ?_⟩
          simp only [impl_directed.l1]
          refine ev_neg (by omega) ?_
          rwa [w64 (a := v + 1) (by omega) (by omega)]
        | succ e ihe =>
          intro w l w0 w1 he hm
          obtain ⟨b, hb, hbq⟩ := hq v w v0 (by omega) w0 (by omega)
          cases b with
          | true =>
            obtain ⟨r, hr, hx⟩ := ihe (w + 1) _ (by omega) (by omega) (by omega) ((hm.or n2 v0 (by omega) w0 (by omega : w < n)).imp (Q := fun a b => (a < v ∨ (a = v ∧ b < w + 1)) ∧ Q a b) fun a b a0 a1 b0 b1 => by
              constructor
              · rintro (⟨h, q⟩ | ⟨rfl, rfl⟩)
                · exact ⟨by omega, q⟩
                · exact ⟨by omega, hbq.1 rfl⟩
              · rintro ⟨h, q⟩
                by_cases z : a = v ∧ b = w
                · exact .inr z
                · exact .inl ⟨by omega, q⟩)
            refine ⟨r, hr, ev_k ?_⟩
            simp only [impl_directed.l1, hb, Option.bind_some]
            refine ev_pos (by omega) (ev_pos trivial (ev_pos v0 (ev_pos (by have := hm.1; omega) (ev_pos w0 ?_))))
            rwa [w64 (a := w + 1) (by omega) (by omega)]
          | false =>
            have nq : ¬ Q v w := fun z => by have := hbq.2 z; cases this
            obtain ⟨r, hr, hx⟩ := ihe (w + 1) l (by omega) (by omega) (by omega) (hm.imp fun a b a0 a1 b0 b1 => by
              constructor
              · rintro ⟨h, q⟩
                exact ⟨by omega, q⟩
              · rintro ⟨h, q⟩
                by_cases z : a = v ∧ b = w
                · obtain ⟨rfl, rfl⟩ := z
                  exact absurd q nq
                · exact ⟨by omega, q⟩)
            refine ⟨r, hr, ev_k ?_⟩
            simp only [impl_directed.l1, hb, Option.bind_some]
            refine ev_pos (by omega) (ev_neg (by simp) ?_)
            rwa [w64 (a := w + 1) (by omega) (by omega)]
      obtain ⟨r, hr, hx⟩ := inner n.toNat 0 l (by omega) (by omega) (by omega) (hm.imp fun a b a0 a1 b0 b1 => and_congr (by omega) Iff.rfl)
      refine ⟨r, hr, ev_k ?_⟩
      simp only [impl_directed.l0]
      exact ev_pos (by omega) hx
  obtain ⟨r, hr, hx⟩ := outer n.toNat 0 _ (by omega) (by omega) (by omega) ((Mx.zero n n0).imp fun a b a0 a1 b0 b1 => ⟨False.elim, fun z => by omega⟩)
  refine ⟨r, hr, ?_⟩
  unfold impl_directed.f
  exact ev_pos n0 (ev_pos (by omega) hx)
end Go.Proofs.Ytcffgfomicpbfaa.Q
namespace Go.Proofs.Ytcffgfomicpbfaa.Q
open Go Go.RowKit Go.Proofs.Ytcffgfomicpbfaa.P Go.Proofs.YtcffgfomicpbfaaW.PrintWords Go.Proofs.YtcffgfomicpbfaaW.PrintMore
theorem equal_l0 (a b : List Int) (e : a.length = b.length) (hl : a.length < 9223372036854775807) (d : Nat) : ∀ (i k : Nat), i + d = a.length → d < k → (∀ j, j < i → a[j]? = b[j]?) → slices_Equal_int64_int64.l0 k a b (a.length : Int) (i : Int) = some (decide (a = b)) := by
  induction d with
  | zero =>
    intro i k hi hk h
    obtain ⟨k, rfl⟩ : ∃ m, k = m + 1 := ⟨k - 1, by omega⟩
    simp only [slices_Equal_int64_int64.l0]
    rw [if_neg (by omega)]
    have : a = b := List.ext_getElem? fun j => by
      by_cases hj : j < i
      · exact h j hj
      · rw [List.getElem?_eq_none (by omega), List.getElem?_eq_none (by omega)]
    rw [decide_eq_true this]
  | succ d ih =>
    intro i k hi hk h
    obtain ⟨k, rfl⟩ : ∃ m, k = m + 1 := ⟨k - 1, by omega⟩
    simp only [slices_Equal_int64_int64.l0]
    rw [if_pos (by omega), if_pos (by omega), if_pos (by omega), if_pos (by omega)]
    by_cases z : rd a (i : Int) = rd b (i : Int)
    · rw [if_pos z, w64 (a := (i : Int) + 1) (by omega) (by omega)]
      refine ih (i + 1) k (by omega) (by omega) fun j hj => ?_
      by_cases q : j = i
      · subst q
        simp only [rd, List.getD_eq_getElem?_getD, Int.toNat_natCast] at z
        rw [List.getElem?_eq_getElem (by omega), List.getElem?_eq_getElem (by omega)] at z ⊢
        simpa using z
      · exact h j (by omega)
    · rw [if_neg z, decide_eq_false fun q => z (by rw [q])]
theorem equal_at (a b : List Int) (hl : a.length < 9223372036854775807) (k : Nat) (hk : a.length < k) : slices_Equal_int64_int64.f k a b = some (decide (a = b)) := by
  unfold slices_Equal_int64_int64.f
  by_cases e : (a.length : Int) = (b.length : Int)
  · rw [if_pos e]
    exact equal_l0 a b (by omega) hl a.length 0 k (by omega) hk fun j hj => by omega
  · rw [if_neg e, decide_eq_false fun q => e (by rw [q])]
def wordsOf (K : Nat) (l : List (List Int)) : Prop := ∀ x ∈ l, x.length = K
theorem wordsOf.at {K : Nat} {l : List (List Int)} (h : wordsOf K l) {i : Int} (i0 : 0 ≤ i) (i1 : i < l.length) : (rd_L1 l i).length = K := by
  have : i.toNat < l.length := by omega
  simp only [rd_L1, List.getD_eq_getElem?_getD, List.getElem?_eq_getElem this, Option.getD_some]
  exact h _ (List.getElem_mem this)
def foll (kz : Bool) (K : Nat) (l : List (List Int)) (v w : Int) : Prop := (rd_L1 l v).drop 1 = (rd_L1 l w).take (K - 1) ∧ (kz = true → rd (rd_L1 l w) ((K : Int) - 1) ≠ rd (rd_L1 l v) ((K : Int) - 1))
theorem s_follows (a b : List Int) (K : Nat) (ha : a.length = K) (hb : b.length = K) (h1 : 1 ≤ K) (h2 : K ≤ 10) : Says (fun k => spec_l08Follows.f k a b) (a.drop 1 = b.take (K - 1)) := by
  have loop : ∀ (d : Nat) (i : Int), 1 ≤ i → i ≤ a.length → a.length - i = d → Says (fun k => spec_l08Follows.l0 k a b i) (∀ j : Int, i ≤ j → j < a.length → rd a j = rd b (j - 1)) := by
    intro d
    induction d with
    | zero =>
      intro i i0 i1 hd
      refine says_k ?_
      simp only [spec_l08Follows.l0]
      exact says_neg (by omega) (says_true fun j _ _ => by omega)
    | succ d ih =>
      intro i i0 i1 hd
      refine says_k ?_
      simp only [spec_l08Follows.l0]
      rw [w64 (a := i - 1) (by omega) (by omega)]
      refine says_pos (by omega) (says_pos (by omega) (says_pos (by omega) (says_pos (by omega) ?_)))
      by_cases z : rd a i = rd b (i - 1)
      · refine says_pos z ?_
        rw [w64 (a := i + 1) (by omega) (by omega)]
        exact says_iff ⟨fun h j j0 j1 => h j (by omega) j1, fun h j j0 j1 => if q : j = i then by rw [q]; exact z else h j (by omega) j1⟩ (ih (i + 1) (by omega) (by omega) (by omega))
      · exact says_neg z (says_false fun h => z (h i (by omega) (by omega)))
  unfold spec_l08Follows.f
  have := foll_iff (a := a) (b := b) (by omega) (by omega)
  rw [hb] at this
  exact says_iff this.symm (loop (K - 1) 1 (by omega) (by omega) (by omega))
theorem s_wordD {K : Nat} {l : List (List Int)} (hw : wordsOf K l) (h1 : 1 ≤ K) (h2 : K ≤ 10) (kz : Bool) (n : Int) (hn : (l.length : Int) = n) (n2 : n ≤ 62) : ∃ r, Mx n r (foll kz K l) ∧ Ev (fun k => spec_l08Digraph.f k l kz) (n, r) := by
  have n0 : 0 ≤ n := by omega
  have outer : ∀ (d : Nat) (v : Int) (m : List Int), 0 ≤ v → v ≤ n → n - v = d → Mx n m (fun a b => a < v ∧ foll kz K l a b) → ∃ r, Mx n r (foll kz K l) ∧ Ev (fun k => spec_l08Digraph.l0 k l kz v n m) (n, r) := by
    intro d
    induction d with
    | zero =>
      intro v m v0 v1 hd hm
      refine ⟨m, hm.imp fun a b a0 a1 _ _ => ⟨fun z => z.2, fun z => ⟨by omega, z⟩⟩, ev_k ?_⟩
      simp only [spec_l08Digraph.l0]
      exact ev_neg (by omega) (Ev.now _)
    | succ d ih =>
      intro v m v0 v1 hd hm
      have inner : ∀ (f : Nat) (w : Int) (m : List Int), 0 ≤ w → w ≤ n → n - w = f → Mx n m (fun a b => (a < v ∨ (a = v ∧ b < w)) ∧ foll kz K l a b) → ∃ r, Mx n r (foll kz K l) ∧ Ev (fun k => spec_l08Digraph.l1 k l kz v w n m) (n, r) := by
        intro f
        induction f with
        | zero =>
          intro w m w0 w1 he hm
          obtain ⟨r, hr, hx⟩ := ih (v + 1) m (by omega) (by omega) (by omega) (hm.imp fun a b a0 a1 b0 b1 => and_congr ⟨fun _ => by omega, fun _ => by omega⟩ Iff.rfl)
          refine ⟨r, hr, ev_k ?_⟩
          simp only [spec_l08Digraph.l1]
          refine ev_neg (by omega) ?_
          rwa [w64 (a := v + 1) (by omega) (by omega)]
        | succ f ihf =>
          intro w m w0 w1 he hm
          have lv := hw.at v0 (by omega : v < l.length)
          have lw := hw.at w0 (by omega : w < l.length)
          have hf := s_follows (rd_L1 l v) (rd_L1 l w) K lv lw h1 h2
          have skip : ¬ foll kz K l v w → ∃ r, Mx n r (foll kz K l) ∧ Ev (fun k => spec_l08Digraph.l1 k l kz v (w + 1) n m) (n, r) := fun hn => ihf (w + 1) m (by omega) (by omega) (by omega) (hm.imp fun a b a0 a1 b0 b1 => by
            constructor
            · rintro ⟨h, q⟩
              exact ⟨by omega, q⟩
            · rintro ⟨h, q⟩
              by_cases z : a = v ∧ b = w
              · obtain ⟨rfl, rfl⟩ := z
                exact absurd q hn
              · exact ⟨by omega, q⟩)
          have put : foll kz K l v w → ∃ r, Mx n r (foll kz K l) ∧ Ev (fun k => spec_l08Digraph.l1 k l kz v (w + 1) n (m.set v.toNat (Go.bits .or .i64 (rd m v) (shl .i64 1 w)))) (n, r) := fun hb => ihf (w + 1) _ (by omega) (by omega) (by omega) ((hm.or n2 v0 (by omega) w0 (by omega : w < n)).imp (Q := fun a b => (a < v ∨ (a = v ∧ b < w + 1)) ∧ foll kz K l a b) fun a b a0 a1 b0 b1 => by
            constructor
            · rintro (⟨h, q⟩ | ⟨rfl, rfl⟩)
              · exact ⟨by omega, q⟩
              · exact ⟨by omega, hb⟩
            · rintro ⟨h, q⟩
              by_cases z : a = v ∧ b = w
              · exact .inr z
              · exact .inl ⟨by omega, q⟩)
          have hml := hm.1
          have pre : ∀ {q : Int × List Int}, Ev (fun k => (spec_l08Follows.f k (rd_L1 l v) (rd_L1 l w)).bind fun t => if t = true then (if kz = true then (if 0 ≤ (wrap64 (((rd_L1 l w).length : Int) - 1)) then (if (wrap64 (((rd_L1 l w).length : Int) - 1)) < ((rd_L1 l w).length : Int) then (if ((rd (rd_L1 l w) (wrap64 (((rd_L1 l w).length : Int) - 1))) = (rd (rd_L1 l v) (wrap64 (((rd_L1 l v).length : Int) - 1)))) then (spec_l08Digraph.l1 k l kz v (wrap64 (w + 1)) n m) else (if v < (m.length : Int) then (if 0 ≤ (IntKind.u64.wrap (w)) then (spec_l08Digraph.l1 k l kz v (wrap64 (w + 1)) n (m.set (v : Int).toNat (Go.bits .or .i64 (rd m v) (shl .i64 1 (IntKind.u64.wrap (w)))))) else (none)) else (none))) else (none)) else (none)) else (if v < (m.length : Int) then (if 0 ≤ (IntKind.u64.wrap (w)) then (spec_l08Digraph.l1 k l kz v (wrap64 (w + 1)) n (m.set (v : Int).toNat (Go.bits .or .i64 (rd m v) (shl .i64 1 (IntKind.u64.wrap (w)))))) else (none)) else (none))) else (spec_l08Digraph.l1 k l kz v (wrap64 (w + 1)) n m)) q → Ev (fun k => spec_l08Digraph.l1 k l kz v w n m) q := fun h => by
            refine ev_k ?_
            simp only [spec_l08Digraph.l1]
            refine ev_pos (by omega) (ev_pos v0 (ev_pos (by omega) ?_))
            have ew : wrap64 (((rd_L1 l v).length : Int) - 1) = (K : Int) - 1 := by rw [lv]; exact w64 (by omega) (by omega)
            refine ev_pos (by rw [ew]; omega) (ev_pos (by rw [ew, lv]; omega) (ev_pos w0 h))
          have ew : wrap64 (w + 1) = w + 1 := w64 (by omega) (by omega)
          have evv : wrap64 (((rd_L1 l v).length : Int) - 1) = (K : Int) - 1 := by rw [lv]; exact w64 (by omega) (by omega)
          have eww : wrap64 (((rd_L1 l w).length : Int) - 1) = (K : Int) - 1 := by rw [lw]; exact w64 (by omega) (by omega)
          rw [ew, evv, eww, wu64 w0 (by omega)] at pre
          by_cases hd1 : (rd_L1 l v).drop 1 = (rd_L1 l w).take (K - 1)
          · cases kz with
            | true =>
              by_cases hd2 : rd (rd_L1 l w) ((K : Int) - 1) = rd (rd_L1 l v) ((K : Int) - 1)
              · obtain ⟨r, hr, hx⟩ := skip fun q => q.2 rfl hd2
                exact ⟨r, hr, pre (Ev.bind (hf.yes hd1) (ev_pos rfl (ev_pos rfl (ev_pos (by omega) (ev_pos (by omega) (ev_pos hd2 hx))))))⟩
              · obtain ⟨r, hr, hx⟩ := put ⟨hd1, fun _ => hd2⟩
                exact ⟨r, hr, pre (Ev.bind (hf.yes hd1) (ev_pos rfl (ev_pos rfl (ev_pos (by omega) (ev_pos (by omega) (ev_neg hd2 (ev_pos (by omega) (ev_pos w0 hx))))))))⟩
            | false =>
              obtain ⟨r, hr, hx⟩ := put ⟨hd1, fun q => by cases q⟩
              exact ⟨r, hr, pre (Ev.bind (hf.yes hd1) (ev_pos rfl (ev_neg (by decide) (ev_pos (by omega) (ev_pos w0 hx)))))⟩
          · obtain ⟨r, hr, hx⟩ := skip fun q => hd1 q.1
            exact ⟨r, hr, pre (Ev.bind (hf.no hd1) (ev_neg (by decide) hx))⟩
      obtain ⟨r, hr, hx⟩ := inner n.toNat 0 m (by omega) (by omega) (by omega) (hm.imp fun a b a0 a1 b0 b1 => and_congr (by omega) Iff.rfl)
      refine ⟨r, hr, ev_k ?_⟩
      simp only [spec_l08Digraph.l0]
      exact ev_pos (by omega) hx
  obtain ⟨r, hr, hx⟩ := outer n.toNat 0 _ (by omega) (by omega) (by omega) ((Mx.zero n n0).imp fun a b a0 a1 b0 b1 => ⟨False.elim, fun z => by omega⟩)
  refine ⟨r, hr, ?_⟩
  unfold spec_l08Digraph.f
  rw [hn]
  exact ev_pos n0 (ev_pos (by omega) hx)
theorem i_kautzD {K : Nat} {l : List (List Int)} (hw : wordsOf K l) (h1 : 1 ≤ K) (h2 : K ≤ 10) (n : Int) (hn : (l.length : Int) = n) (n2 : n ≤ 62) : ∃ r, Mx n r (foll true K l) ∧ Ev (fun k => impl_directed.f (impl_kautz.is k (K : Int) l) k n) (n, r) := by
  have eis : ∀ v u : Int, 0 ≤ v → v < l.length → 0 ≤ u → u < l.length → ∀ k, 12 ≤ k → impl_kautz.is k (K : Int) l v u = some (decide ((rd_L1 l v).drop 1 = (rd_L1 l u).take (K - 1)) && (rd (rd_L1 l v) ((K : Int) - 1) != rd (rd_L1 l u) ((K : Int) - 1))) := by
    intro v u v0 v1 u0 u1 k hk
    have lv := hw.at v0 v1
    have lu := hw.at u0 u1
    unfold impl_kautz.is
    rw [if_pos v0, if_pos v1, if_pos (by omega), if_pos (by omega), if_pos u0, if_pos u1, if_pos (by omega), show ((K : Int) - 1).toNat = K - 1 by omega, equal_at _ _ (by rw [List.length_drop]; omega) k (by rw [List.length_drop]; omega)]
    rfl
  have efun : ∀ k, 12 ≤ k → impl_kautz.is k (K : Int) l = impl_kautz.is 12 (K : Int) l := by
    intro k hk
    funext v u
    by_cases h : (0 ≤ v ∧ v < l.length) ∧ 0 ≤ u ∧ u < l.length
    · rw [eis v u h.1.1 h.1.2 h.2.1 h.2.2 k hk, eis v u h.1.1 h.1.2 h.2.1 h.2.2 12 (Nat.le_refl _)]
    · unfold impl_kautz.is
      by_cases v0 : 0 ≤ v
      · by_cases v1 : v < l.length
        · by_cases u0 : 0 ≤ u
          · simp [show ¬ u < (l.length : Int) by omega]
          · simp [u0]
        · simp [v1]
      · simp [v0]
  obtain ⟨r, hr, hx⟩ := i_directed n (by omega) n2 (impl_kautz.is 12 (K : Int) l) (foll true K l) fun v w v0 v1 w0 w1 => ⟨_, eis v w v0 (by omega) w0 (by omega) 12 (Nat.le_refl _), by
    simp only [foll, Bool.and_eq_true, decide_eq_true_eq, bne_iff_ne, ne_eq, forall_const]
    exact and_congr Iff.rfl ⟨fun h q => h q.symm, fun h q => h q.symm⟩⟩
  refine ⟨r, hr, ?_⟩
  obtain ⟨k0, hk0⟩ := hx
  refine ⟨k0 + 12, fun k hk => ?_⟩
  show impl_directed.f (impl_kautz.is k (K : Int) l) k n = _
  have hz : impl_directed.f (impl_kautz.is 12 (K : Int) l) k n = some (n, r) := hk0 k (by omega)
  rw [efun k (by omega), hz]
end Go.Proofs.Ytcffgfomicpbfaa.Q
namespace Go.Proofs.Ytcffgfomicpbfaa.Q
open Go Go.RowKit Go.Proofs.Ytcffgfomicpbfaa.P Go.Proofs.YtcffgfomicpbfaaW.PrintWords Go.Proofs.YtcffgfomicpbfaaW.PrintMore
theorem rd_at (l : List Int) (i : Int) (h1 : i.toNat < l.length) : rd l i = l[i.toNat] := by
  simp [rd, List.getD_eq_getElem?_getD, List.getElem?_eq_getElem h1]
theorem eqS_l0 (l m : List Int) (e : l.length = m.length) (hl : l.length < 9223372036854775807) (d : Nat) : ∀ (i : Int), 0 ≤ i → i ≤ l.length → l.length - i = d →
    Ev (fun k => laws_eqInt64S.l0 k l m i) (decide (l.drop i.toNat = m.drop i.toNat)) := by
  have dc : ∀ (l : List Int) (i : Int), 0 ≤ i → i < l.length → l.drop i.toNat = rd l i :: l.drop (i + 1).toNat := fun l i h0 h1 => by
    rw [List.drop_eq_getElem_cons (by omega : i.toNat < l.length), show (i + 1).toNat = i.toNat + 1 by omega, rd_at l i (by omega)]
  induction d with
  | zero =>
    intro i h0 h1 hd
    refine ev_k ?_
    simp only [laws_eqInt64S.l0]
    refine ev_neg (by omega) (ev_some ?_)
    rw [List.drop_of_length_le (by omega), List.drop_of_length_le (by omega)]
    rfl
  | succ d ih =>
    intro i h0 h1 hd
    refine ev_k ?_
    simp only [laws_eqInt64S.l0]
    refine ev_pos (by omega) (ev_pos h0 (ev_pos (by omega) ?_))
    rw [w64 (a := i + 1) (by omega) (by omega), dc l i h0 (by omega), dc m i h0 (by omega)]
    by_cases h : rd l i = rd m i
    · refine ev_pos h ?_
      simp only [List.cons.injEq, h, true_and]
      exact ih (i + 1) (by omega) (by omega) (by omega)
    · refine ev_neg h (ev_some ?_)
      simp [h]
theorem eqS (l m : List Int) (hl : l.length < 9223372036854775807) : Ev (fun k => laws_eqInt64S.f k l m) (decide (l = m)) := by
  unfold laws_eqInt64S.f
  by_cases e : l.length = m.length
  · refine ev_pos (by omega) ?_
    simpa using eqS_l0 l m e hl l.length 0 (by omega) (by omega) (by omega)
  · refine ev_neg (by omega) (ev_some ?_)
    exact (decide_eq_false fun h => e (by rw [h])).symm
theorem eqS_self (l : List Int) (hl : l.length < 9223372036854775807) : Ev (fun k => laws_eqInt64S.f k l l) true := by
  simpa using eqS l l hl
def marks (a : Int) (n : Nat) : List Int := (List.range n).map fun (j : Nat) => a + (j : Int)
theorem marks_length (a : Int) (n : Nat) : (marks a n).length = n := by simp [marks]
theorem marks_at (a : Int) (n j : Nat) (h : j < n) : (marks a n)[j]? = some (a + j) := by
  simp [marks, h]
theorem mark_l0 (n : Nat) (a : Int) (ha : 0 ≤ a) (hn : a + n < 9223372036854775807) (d : Nat) : ∀ (m : List Int) (i : Int), 0 ≤ i → i ≤ n → n - i = d → m.length = n → (∀ j, j < i.toNat → m[j]? = some (a + j)) →
    Ev (fun k => laws_markInt64S.l0 k m (a + i) i) (a + n, marks a n) := by
  induction d with
  | zero =>
    intro m i h0 h1 hd hm hj
    refine ev_k ?_
    simp only [laws_markInt64S.l0]
    refine ev_neg (by omega) (ev_some ?_)
    have : m = marks a n := by
      refine List.ext_getElem? fun j => ?_
      by_cases h : j < n
      · rw [hj j (by omega), marks_at a n j h]
      · rw [List.getElem?_eq_none (by omega), List.getElem?_eq_none (by rw [marks_length]; omega)]
    rw [this, show i = n by omega]
  | succ d ih =>
    intro m i h0 h1 hd hm hj
    refine ev_k ?_
    simp only [laws_markInt64S.l0]
    refine ev_pos (by omega) (ev_pos h0 ?_)
    rw [w64 (a := i + 1) (by omega) (by omega), w64 (a := a + i + 1) (by omega) (by omega), show a + i + 1 = a + (i + 1) by omega]
    refine ih _ (i + 1) (by omega) (by omega) (by omega) (by simpa using hm) fun j h => ?_
    rw [List.getElem?_set]
    split
    · subst_vars
      rw [if_pos (by omega), Int.toNat_of_nonneg h0]
    · exact hj j (by omega)
theorem markS (l : List Int) (a : Int) (ha : 0 ≤ a) (hn : a + l.length < 9223372036854775807) : Ev (fun k => laws_markInt64S.f k l a) (a + l.length, marks a l.length) := by
  unfold laws_markInt64S.f
  have h := mark_l0 l.length a ha hn l.length l 0 (by omega) (by omega) (by omega) rfl (fun j h => by simp at h)
  rwa [Int.add_zero] at h
theorem held_l0 (n : Nat) (a : Int) (ha : 0 ≤ a) (hn : a + n < 9223372036854775807) (d : Nat) : ∀ (i : Int), 0 ≤ i → i ≤ n → n - i = d →
    Ev (fun k => laws_heldInt64S.l0 k (marks a n) (a + i) i) (a + n) := by
  induction d with
  | zero =>
    intro i h0 h1 hd
    refine ev_k ?_
    simp only [laws_heldInt64S.l0]
    exact ev_neg (by rw [marks_length]; omega) (ev_some (by omega))
  | succ d ih =>
    intro i h0 h1 hd
    refine ev_k ?_
    simp only [laws_heldInt64S.l0]
    refine ev_pos (by rw [marks_length]; omega) (ev_pos h0 (ev_pos ?_ ?_))
    · have := marks_at a n i.toNat (by omega)
      simp only [rd, List.getD_eq_getElem?_getD, this, Option.getD_some]
      omega
    · rw [w64 (a := i + 1) (by omega) (by omega), w64 (a := a + i + 1) (by omega) (by omega), show a + i + 1 = a + (i + 1) by omega]
      exact ih (i + 1) (by omega) (by omega) (by omega)
theorem heldS (n : Nat) (a : Int) (ha : 0 ≤ a) (hn : a + n < 9223372036854775807) : Ev (fun k => laws_heldInt64S.f k (marks a n) a) (a + n) := by
  unfold laws_heldInt64S.f
  have h := held_l0 n a ha hn n 0 (by omega) (by omega) (by omega)
  rwa [Int.add_zero] at h
end Go.Proofs.Ytcffgfomicpbfaa.Q
namespace Go.Proofs.Ytcffgfomicpbfaa.Q
open Go Go.RowKit Go.Proofs.Ytcffgfomicpbfaa.P Go.Proofs.YtcffgfomicpbfaaW.PrintWords Go.Proofs.YtcffgfomicpbfaaW.PrintMore
theorem eqD (n : Int) (l : List Int) (hl : l.length ≤ 1048576) : Ev (fun m => laws_eqDigraph.f m n l n l) true := by
  unfold laws_eqDigraph.f
  exact ev_pos rfl (Ev.bind (eqS_self l (by omega)) (ev_pos rfl (Ev.now _)))
theorem markD (n : Int) (l : List Int) (hl : l.length ≤ 1048576) : Ev (fun m => laws_markDigraph.f m n l 1) (1 + (l.length : Int), marks 1 l.length) := by
  unfold laws_markDigraph.f
  exact Ev.bind (markS l 1 (by omega) (by omega)) (Ev.now _)
theorem heldD (n : Int) (j : Nat) (hl : j ≤ 1048576) : Ev (fun m => laws_heldDigraph.f m n (marks 1 j) 1) (1 + (j : Int)) := by
  unfold laws_heldDigraph.f
  exact Ev.bind (heldS j 1 (by omega) (by omega)) (ev_neg (by omega) (Ev.now _))
end Go.Proofs.Ytcffgfomicpbfaa.Q
namespace Go.Proofs.Ytcffgfomicpbfaa.Pure
open Go Go.RowKit Go.Proofs.Ytcffgfomicpbfaa.P Go.Proofs.YtcffgfomicpbfaaW.PrintWords Go.Proofs.YtcffgfomicpbfaaW.PrintLast Go.Proofs.YtcffgfomicpbfaaW.PrintMore Go.Proofs.Ytcffgfomicpbfaa.Q
theorem both (d k : Int) (_ : -9223372036854775808 ≤ d ∧ d < 9223372036854775808) (_ : -9223372036854775808 ≤ k ∧ k < 9223372036854775808) : ∃ m r q, r.length ≤ 1048576 ∧ Ev (fun z => spec_KautzDigraph.f z d k) (m, r, q) ∧ Ev (fun z => impl_KautzDigraph.f z d k) (m, r, q) := by
  obtain ⟨c, hs, hi, h0⟩ := kcodes d k
  unfold spec_KautzDigraph.f impl_KautzDigraph.f
  by_cases z : c = 0
  · obtain ⟨D, K, rfl, rfl, D1, D2, K1, K2, hb⟩ := h0 z
    have hn := kbound D1 K1 hb
    have ht := i_kautzWords D K (by omega) (by omega) hn
    have hl := s_list D D K true (by simp) (by omega) (by omega) (by omega) K [] (by simp) (hn K (Nat.le_refl _))
    have hw : wordsOf K (extW D true K []) := fun x hx => (extW_len_pos hx).1
    have hlen := hn K (Nat.le_refl _)
    generalize extW D true K [] = l at ht hl hw hlen
    obtain ⟨r, hr, hx⟩ := s_wordD hw K1 K2 true _ rfl (by omega)
    obtain ⟨r', hr', hx'⟩ := i_kautzD hw K1 K2 _ rfl (by omega)
    obtain rfl := hr.eq hr' (by omega)
    refine ⟨l.length, r, 0, by have := hr.1; omega, Ev.bind hs (ev_pos z (Ev.bind hl (Ev.bind hx (Ev.now _)))), Ev.bind hi (ev_pos z ?_)⟩
    unfold impl_kautz.f
    exact Ev.bind (a := ((l.length : Int), r)) (Ev.bind ht (Ev.bind hx' (Ev.now _))) (Ev.now _)
  · exact ⟨0, [], c, by simp, Ev.bind hs (ev_neg z (Ev.now _)), Ev.bind hi (ev_neg z (Ev.now _))⟩
theorem FnExactKautzDigraph : ∀ (a0 : Int) (a1 : Int), (Lit.int .i64 a0).wf = true → (Lit.int .i64 a1).wf = true → ∃ k, laws_FnExactKautzDigraph.f k a0 a1 = some true := by
  intro d k hd hk
  refine Ev.rounds ?_
  unfold laws_FnExactKautzDigraph.f
  obtain ⟨m, r, q, hr, h1, h2⟩ := both d k (wf64 hd) (wf64 hk)
  refine Ev.bind h1 (Ev.bind h2 (Ev.bind (eqD m r hr) (ev_pos rfl ?_)))
  refine ev_k ?_
  simp only [laws_FnExactKautzDigraph.j0]
  refine ev_neg (by simp) (Ev.bind (markD m r hr) (Ev.bind (heldD m r.length hr) (ev_neg (by omega) (ev_pos rfl ?_))))
  refine Ev.bind h2 (Ev.bind (eqD m r hr) (ev_pos rfl ?_))
  refine ev_k ?_
  simp only [laws_FnExactKautzDigraph.j1]
  exact ev_neg (by simp) (Ev.bind (heldD m r.length hr) (ev_neg (by omega) (ev_pos rfl (Ev.now _))))
end Go.Proofs.Ytcffgfomicpbfaa.Pure
