-- Printed by a program of this workplace (wip/xp/xp.py) over the kit's print.
import Derived.Test.YtcffgfomicpbfaaP0
import Derived.Test.YtcffgfomicpbfaaP14
namespace Go.Proofs.Ytcffgfomicpbfaa.P
open Go.RowKit Go.Proofs.YtcffgfomicpbfaaW.PrintWords Go.Proofs.YtcffgfomicpbfaaW.PrintLast Go.Proofs.YtcffgfomicpbfaaW.PrintMore
attribute [local go_sem] max2_int min2_int max_two min_two max_three min_three max_four min_four   -- for this text's walks alone
set_option linter.unusedVariables false
set_option linter.unusedSimpArgs false

/-! ### laws_markInt64SS: function 18 -/
/-- An element of a row of rows that lie apart, lent for a call that writes its blocks (and makes new ones). -/
theorem laws_markInt64SS.lend {α : Type} {d : Kd α} {e n cap : Nat} {W : World} {base : Nat} {ok : Nat → Prop} {xs : List α} {ad : Addr} (h : Kd.S d e W base ok (.slice (some ad) n cap) xs) (z : α) (i : Int) (h0 : 0 ≤ i) (h1 : i < n) :
    ∃ (oki : Nat → Prop) (c : List Value), d.M W base oki (xs.getD i.toNat z) c ∧ (∀ j u, c[j]? = some u → W.cell? (ad.add (i.toNat * d.sz + j)) = some u) ∧ (∀ k, oki k → ok k) ∧
      ∀ (w1 : World) (x' : α), Kept W w1 oki → d.M w1 base (fun k => oki k ∨ ok k ∧ W.heap.size ≤ k) x' c → Kd.S d e w1 base ok (.slice (some ad) n cap) (xs.set i.toNat x') := by
  obtain ⟨g, rfl⟩ := Kd.R_head (Kd.S_R h)
  obtain ⟨oki, c, hcl, hM, hcc, hoki, hH⟩ := Kd.S_lend h z i h0 h1
  refine ⟨oki, c, hM, fun j u hu => ?_, fun k hk => (hoki k hk).1, fun w1 x' hk hM1 => Kd.H_back (Kd.H_step (Kd.H_widen hH) (fun k ho hn hlt => hk.2 k hlt (fun h2 => hn (.inl h2)))) hM1 (fun _ hk => hk)⟩
  rw [add_at, Nat.zero_add]
  exact hcc j u hu
def laws_markInt64SS.l0 : Nat → Int → List (List Int) → Int → Int → Option (Int × List (List Int))
  | 0, _, _, _, _ => none
  | k + 1, n, l, a, i => if i < n then (if 0 ≤ i then ((laws_markInt64S.f k (rd_L1 l i) a).bind fun bt => (laws_markInt64SS.l0 k n (l.set i.toNat bt.2) bt.1 (wrap64 (i + 1)))) else none) else (some (a, l))
def laws_markInt64SS.f (k : Nat) (l0 : List (List Int)) (a1 : Int) : Option (Int × List (List Int)) := laws_markInt64SS.l0 k (l0.length : Int) l0 a1 0
set_option maxHeartbeats 8000000 in
set_option maxRecDepth 100000 in
theorem laws_markInt64SS.calls (k : Nat) (P0_ : Nat → Prop) (A0 : Option Addr) (c0 : Nat) (l0 : List (List Int)) (a1 : Int) (r1 : Int) (r2 : List (List Int)) (w0 w : World) (hB : Below w0.heap.size w0 w) (ho0 : Kd.S (Kd.slice 2 (Kd.int .i64)) 22 w w0.heap.size P0_ (.slice A0 l0.length c0) l0) (h : laws_markInt64SS.f k l0 a1 = some (r1, r2)) :
    Calls Try.prog 18 #[.slice A0 l0.length c0, .int .i64 a1] w fun e w' => e = .returned (.int .i64 r1) ∧ Kd.S (Kd.slice 2 (Kd.int .i64)) 22 w' w0.heap.size (fun k_ => (P0_ k_ ∨ w.heap.size ≤ k_)) (.slice A0 l0.length c0) r2 ∧ r2.length = l0.length ∧ Below w0.heap.size w0 w' ∧ Kept w w' (fun k_ => P0_ k_) := by
  have HO0 := Aside0.mk (show Kd.S (Kd.slice 2 (Kd.int .i64)) 22 w w0.heap.size (fun k_ => (P0_ k_ ∨ w.heap.size ≤ k_)) (.slice A0 l0.length c0) l0 from Kd.S_mono ho0 (fun k_ hk => .inl hk))
  have HK := Aside0.mk (Kept.refl w (fun k_ => P0_ k_))
  have HB := Aside0.mk hB
  clear hB ho0
  have H' := Aside0.mk (show laws_markInt64SS.l0 k (l0.length : Int) l0 a1 0 = some (r1, r2) from h)
  clear h
  go_enter Try.func18, Try.ntmps18
  go_wp2
  go_loopg [1, 5] k (fun kq v1 v5 w' => ∃ (x0_1 : List (List Int)) (x1_1 : Int) (x5_1 : Int), v1 = .int .i64 x1_1 ∧ v5 = .int .i64 x5_1 ∧ Aside0 (laws_markInt64SS.l0 kq (l0.length : Int) x0_1 x1_1 x5_1 = some (r1, r2)) ∧ Aside0 (kq ≤ k) ∧ Aside0 (Kd.S (Kd.slice 2 (Kd.int .i64)) 22 w' w0.heap.size (fun k_ => (P0_ k_ ∨ w.heap.size ≤ k_)) (.slice A0 l0.length c0) x0_1) ∧ Aside0 (x0_1.length = l0.length) ∧ Aside0 (Kept w w' (fun k_ => P0_ k_)) ∧ Aside0 (Below w0.heap.size w0 w'))
  case atStart => exact ⟨l0, a1, 0, (by first | rfl | (simp; done) | (simp [*]; done)), (by first | rfl | (simp; done) | (simp [*]; done)), H', ⟨Nat.le_refl _⟩, HO0, ⟨rfl⟩, HK, HB⟩
  case round =>
    clear H' HO0 HK HB
    obtain ⟨x0_1, x1_1, x5_1, rfl, rfl, HA, HK1, HO, HL, HK, HB⟩ := hrel
    cases gk with
    | zero => exact absurd HA.out (by simp [laws_markInt64SS.l0])
    | succ k1 =>
      have H := HA.out
      clear HA
      simp only [laws_markInt64SS.l0] at H
      by_cases c3 : x5_1 < (l0.length : Int)
      · rw [if_pos c3] at H
        have c3b0 : decide (x5_1 < (l0.length : Int)) = true := decide_eq_true c3
        by_cases c4 : 0 ≤ x5_1
        · rw [if_pos c4] at H
          have c4b0 : decide (0 ≤ x5_1) = true := decide_eq_true c4
          replace H := Option.bind_eq_some_iff.mp H
          obtain ⟨⟨t1, t2⟩, A50, H⟩ := H
          have A5 := Aside0.mk A50
          clear A50
          have H' := Aside0.mk (show laws_markInt64SS.l0 k1 (l0.length : Int) (x0_1.set x5_1.toNat t2) t1 (wrap64 (x5_1 + 1)) = some (r1, r2) from H)
          clear H
          obtain ⟨ad, A, c, e_, hx, hl, hi⟩ := at_L1 (show Kd.C (Kd.slice 2 (Kd.int .i64)) _ A0 x0_1.length x0_1 from (Kd.S_reads' HO.out).2.2) x5_1 c4 (by have := HL.out; omega)
          cases e_
          obtain ⟨oki, cc, hM, hcc, hoki, hback⟩ := laws_markInt64SS.lend HO.out [] x5_1 c4 c3
          obtain ⟨vi, rfl, hRi⟩ := hM
          have hvi := hcc 0 vi rfl
          rw [show x5_1.toNat * ((Kd.slice 2 (Kd.int .i64)).sz) + 0 = x5_1.toNat from by rw [show (Kd.slice 2 (Kd.int .i64)).sz = 1 from rfl]; omega] at hvi
          obtain rfl := Option.some.inj (hvi.symm.trans hx)
          clear hcc hvi hl hi
          have HRI := Aside0.mk hRi
          have HBK := Aside0.mk hback
          have HOK := Aside0.mk hoki
          clear hRi hback hoki
          replace c3 := eq_true c3
          replace c4 := eq_true c4
          go_wp2_with fail
          refine (laws_markInt64S.calls k1 oki _ (rd_L1 x0_1 x5_1) x1_1 t1 t2 w0 _ HB.out HRI.out A5.out).mono ?_
          rintro e w2 ⟨rfl, hR, hB, hK⟩
          have HS := Aside0.mk (HBK.out w2 t2 hK ⟨_, rfl, Kd.R_mono hR (fun k_ hk => hk.elim .inl (fun h2 => .inr ⟨.inr (Nat.le_trans HK.out.1 h2), h2⟩))⟩)
          have HK2 := Aside0.mk (HK.out.then_ hK (fun k_ h2 => HOK.out k_ h2))
          have HB2 := Aside0.mk hB
          have HL2 := Aside0.mk (show (x0_1.set x5_1.toNat t2).length = l0.length by rw [List.length_set]; exact HL.out)
          clear hR hB hK HO HL HK HB HRI HBK HOK hx
          go_wp2
          go_roundg k1
          case measure => have := HK1.out; omega
          case rel => exact ⟨_, t1, (wrap64 (x5_1 + 1)), (by first | rfl | (simp; done) | (simp [*]; done)), (by first | rfl | (simp; done) | (simp [*]; done)), H', ⟨by have := HK1.out; omega⟩, HS, HL2, HK2, HB2⟩
        · rw [if_neg c4] at H
          exact absurd H (by simp)
      · rw [if_neg c3] at H
        have c3b0 : decide (x5_1 < (l0.length : Int)) = false := decide_eq_false c3
        clear c3
        obtain ⟨rfl, rfl⟩ : x1_1 = r1 ∧ x0_1 = r2 := by simpa using H
        clear H
        go_wp2
        go_ret
        exact ⟨by first | rfl | (simp; done) | (simp [*]; done), HO.out, HL.out, HB.out, HK.out⟩

end Go.Proofs.Ytcffgfomicpbfaa.P
