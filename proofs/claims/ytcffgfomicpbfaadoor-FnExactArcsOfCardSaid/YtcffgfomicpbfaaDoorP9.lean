-- Printed by a program of this workplace (wip/xp/xp.py) over the kit's print.
import Derived.Test.YtcffgfomicpbfaaDoorP0
namespace Go.Proofs.YtcffgfomicpbfaaDoor.P
open Go.RowKit Go.Proofs.YtcffgfomicpbfaaDoorW.PrintWords Go.Proofs.YtcffgfomicpbfaaDoorW.PrintLast Go.Proofs.YtcffgfomicpbfaaDoorW.PrintMore
attribute [local go_sem] max2_int min2_int max_two min_two max_three min_three max_four min_four   -- for this text's walks alone
set_option linter.unusedVariables false
set_option linter.unusedSimpArgs false

/-! ### impl_IsDigraph: function 35 -/
theorem impl_IsDigraph.lit (n : Int) (n1 : 1 ≤ n) (n2 : n ≤ 62) (p : Int) (hp : wrap64 (2 ^ n.toNat) = p) (B : Nat) (row : Int) (W : World) (hc : W.cell? ⟨B, 0, none⟩ = some (.int .i64 n)) :
    Calls Tryd.prog 59 #[.int .i64 row, .pointer (some ⟨B, 0, none⟩)] W fun e w' => e = .returned (.bool (decide (row < 0) || decide (p ≤ row))) ∧ w' = W := by
  have n0 : 0 ≤ n := by omega
  have n3 : n ≤ 64 := by omega
  by_cases h : row < 0
  · have h0 : decide (row < 0) = true := decide_eq_true h
    clear h
    go_enter Tryd.func59, Tryd.ntmps59
    go_wp2
    go_ret
    exact ⟨by simp [h0], rfl⟩
  · have h0 : decide (row < 0) = false := decide_eq_false h
    clear h
    go_enter Tryd.func59, Tryd.ntmps59
    go_wp2
    go_ret
    exact ⟨by simp [h0], rfl⟩
set_option maxHeartbeats 2000000 in
theorem impl_IsDigraph.idx (q : Int → Bool) (g : Nat) (lb : Array Value) (eg : ∀ args w, (callFunc g args).run Tryd.prog w = .ok (.enter g args) w) (A0 : Option Addr) (c0 : Nat) (l0 : List Int) (w : World)
    (hq : ∀ (W : World) (x : Int), Below w.heap.size w W → Calls Tryd.prog g (#[.int .i64 x] ++ lb) W fun e w' => e = .returned (.bool (q x)) ∧ Below w.heap.size w w')
    (hr0 : Kd.C (Kd.int .i64) w A0 l0.length l0) (hc0 : l0.length ≤ c0) :
    Calls Tryd.prog 63 #[.slice A0 l0.length c0, .func (.func g) #[] lb] w fun e w' => Aside0 (∃ i : Int, e = .returned (.int .i64 i) ∧ (0 ≤ i ↔ ∃ x ∈ l0, q x = true)) ∧ Below w.heap.size w w' := by
  have hbig := Kd.C_max hr0
  have HR := Aside0.mk hr0
  have HQ := Aside0.mk hq
  clear hr0 hq
  go_enter Tryd.func63, Tryd.ntmps63
  go_wp2
  go_loopg [5, 8] l0.length (fun gg _ s8 wr => ∃ kk : Nat, kk ≤ l0.length ∧ l0.length - kk ≤ gg ∧ s8 = .int .i64 kk ∧ Aside0 (Below w.heap.size w wr) ∧ Aside0 (∀ x ∈ l0.take kk, q x = false))
  case atStart => exact ⟨0, Nat.zero_le _, by omega, rfl, ⟨Below.refl _ w⟩, ⟨by simp⟩⟩
  case round =>
    obtain ⟨kk, hkk, hg, rfl, BW, A⟩ := hrel
    by_cases hlt : kk < l0.length
    · have hltz : (kk : Int) < (l0.length : Int) := by omega
      obtain ⟨ad, ea, hcell⟩ := Kd.at_int HR.out kk (by omega) (by omega)
      cases ea
      rw [Int.toNat_natCast] at hcell
      replace hcell := (BW.out.cell (World.block_lt_of_cell? w _ hcell)).trans hcell
      have hcall := HQ.out wr (rd l0 kk) BW.out
      have hrd : rd l0 kk = l0[kk] := by simp [rd, List.getD_eq_getElem?_getD, List.getElem?_eq_getElem hlt]
      have HRD := Aside0.mk hrd
      clear hrd
      generalize rd l0 kk = y at *
      have hts : l0.take (kk + 1) = l0.take kk ++ [y] := by rw [HRD.out, List.take_succ_eq_append_getElem hlt]
      have HTS := Aside0.mk hts
      clear hts
      cases hqy : q y with
      | true =>
        rw [hqy] at hcall
        have HQY := Aside0.mk hqy
        clear hqy
        go_wp2_with (go_at_fn g; refine hcall.mono ?_; rintro e w' ⟨rfl, hb'⟩)
        go_ret
        exact ⟨⟨kk, rfl, ⟨fun _ => ⟨y, by rw [HRD.out]; exact List.getElem_mem _, HQY.out⟩, fun _ => by omega⟩⟩, hb'⟩
      | false =>
        rw [hqy] at hcall
        have HQY := Aside0.mk hqy
        clear hqy
        go_wp2_with (go_at_fn g; refine hcall.mono ?_; rintro e w' ⟨rfl, hb'⟩)
        go_roundg (l0.length - (kk + 1))
        case measure => omega
        case rel =>
          refine ⟨kk + 1, by omega, by omega, by go_num, ⟨hb'⟩, ⟨?_⟩⟩
          rw [HTS.out]
          intro x hx
          rcases List.mem_append.1 hx with h | h
          · exact A.out x h
          · rw [List.mem_singleton.1 h]; exact HQY.out
    · have hltz : ¬ (kk : Int) < (l0.length : Int) := by omega
      have hkl : kk = l0.length := by omega
      have HKL := Aside0.mk hkl
      clear hkl
      go_wp2
      go_ret
      refine ⟨⟨-1, rfl, ⟨fun h => by omega, fun ⟨x, hx, e⟩ => ?_⟩⟩, BW.out⟩
      have := A.out x (by rw [HKL.out, List.take_of_length_le (Nat.le_refl _)]; exact hx)
      rw [e] at this
      cases this
set_option maxHeartbeats 2000000 in
theorem impl_IsDigraph.has (q : Int → Bool) (g : Nat) (lb : Array Value) (eg : ∀ args w, (callFunc g args).run Tryd.prog w = .ok (.enter g args) w) (A0 : Option Addr) (c0 : Nat) (l0 : List Int) (w : World)
    (hq : ∀ (W : World) (x : Int), Below w.heap.size w W → Calls Tryd.prog g (#[.int .i64 x] ++ lb) W fun e w' => e = .returned (.bool (q x)) ∧ Below w.heap.size w w')
    (hr0 : Kd.C (Kd.int .i64) w A0 l0.length l0) (hc0 : l0.length ≤ c0) :
    Calls Tryd.prog 58 #[.slice A0 l0.length c0, .func (.func g) #[] lb] w fun e w' => e = .returned (.bool (l0.any q)) ∧ Below w.heap.size w w' := by
  go_enter Tryd.func58, Tryd.ntmps58
  go_wp2_with (go_at_call 63; refine (impl_IsDigraph.idx q g lb eg A0 c0 l0 _ hq hr0 hc0).mono ?_; rintro e w' ⟨⟨i, rfl, hi⟩, hb'⟩; have HI := Aside0.mk hi; clear hi)
  go_ret
  refine ⟨?_, hb'⟩
  have : decide (0 ≤ i) = l0.any q := by
    rw [Bool.eq_iff_iff, decide_eq_true_iff, HI.out]
    simp
  rw [← this]
  rfl
def impl_IsDigraph.f (a0_0 : Int) (l0_1 : List Int) : Option (Bool) := if a0_0 < 1 then (some false) else (if a0_0 > 62 then (some false) else (if (l0_1.length : Int) = a0_0 then (some (!(l0_1.any fun row => decide (row < 0) || decide (wrap64 (2 ^ a0_0.toNat) ≤ row)))) else (some false)))
set_option maxHeartbeats 8000000 in
set_option maxRecDepth 100000 in
theorem impl_IsDigraph.calls (a0_0 : Int) (A0_1 : Option Addr) (c0_1 : Nat) (l0_1 : List Int) (r : Bool) (w : World) (hr0_1 : Kd.C (Kd.int .i64) w A0_1 l0_1.length l0_1) (hc0_1 : l0_1.length ≤ c0_1) (h : impl_IsDigraph.f a0_0 l0_1 = some r) :
    Calls Tryd.prog 35 #[.agg #[.int .i64 a0_0, .slice A0_1 l0_1.length c0_1]] w fun e w' => e = .returned (.bool r) ∧ Below w.heap.size w w' := by
  have hlen := Kd.C_max hr0_1
  have HR := Aside0.mk hr0_1
  have HC := Aside0.mk hc0_1
  clear hr0_1 hc0_1
  have bx : Below w.heap.size w ((w.alloc (.cells #[.int .i64 a0_0, .slice A0_1 l0_1.length c0_1] 29)).alloc (.cells #[.int .i64 a0_0] 2)) := ((Below.refl _ _).alloc (Nat.le_refl _) _).alloc (by simp) _
  have BX := Aside0.mk bx
  clear bx
  unfold impl_IsDigraph.f at h
  by_cases c1 : a0_0 < 1
  · rw [if_pos c1] at h
    obtain rfl := Option.some.inj h
    clear h
    have k1 : decide (a0_0 < 1) = true := decide_eq_true c1
    clear c1
    go_enter Tryd.func35, Tryd.ntmps35
    go_wp2
    go_ret
    exact ⟨rfl, BX.out⟩
  · rw [if_neg c1] at h
    have k1 : decide (a0_0 < 1) = false := decide_eq_false c1
    by_cases c2 : a0_0 > 62
    · rw [if_pos c2] at h
      obtain rfl := Option.some.inj h
      clear h
      have k2 : decide (62 < a0_0) = true := decide_eq_true c2
      clear c1 c2
      go_enter Tryd.func35, Tryd.ntmps35
      go_wp2
      go_ret
      exact ⟨rfl, BX.out⟩
    · rw [if_neg c2] at h
      have k2 : decide (62 < a0_0) = false := decide_eq_false c2
      by_cases c3 : (l0_1.length : Int) = a0_0
      · rw [if_pos c3] at h
        obtain rfl := Option.some.inj h
        clear h
        have k3 : ((l0_1.length : Int) != a0_0) = false := by simp [c3]
        have n1 : 1 ≤ a0_0 := by omega
        have n2 : a0_0 ≤ 62 := by omega
        clear c1 c2 c3
        have HK := fun W hq => impl_IsDigraph.has (fun row => decide (row < 0) || decide (wrap64 (2 ^ a0_0.toNat) ≤ row)) 59 #[.pointer (some ⟨w.heap.size + 1, 0, none⟩)] (enters_of Tryd.func59 (by kernel_rfl) rfl) A0_1 c0_1 l0_1 W hq
        go_enter Tryd.func35, Tryd.ntmps35
        go_wp2_with fail
        refine (HK _ ?hq ?hr HC.out).mono ?_
        case hq =>
          intro W x hb
          have hc : W.cell? ⟨w.heap.size + 1, 0, none⟩ = some (.int .i64 a0_0) := by
            rw [hb.cell (p := ⟨w.heap.size + 1, 0, none⟩) (by simp)]
            simp
          exact (impl_IsDigraph.lit a0_0 n1 n2 _ rfl _ x W hc).mono fun e w' ⟨he, hw⟩ => ⟨he, by rw [hw]; exact hb⟩
        case hr => exact Kd.C_below HR.out BX.out
        rintro e w' ⟨rfl, hb⟩
        go_wp2
        go_ret
        refine ⟨rfl, ?_⟩
        exact below_then BX.out (by simp; omega) hb
      · rw [if_neg c3] at h
        obtain rfl := Option.some.inj h
        clear h
        have k3 : ((l0_1.length : Int) != a0_0) = true := by simp [c3]
        clear c1 c2 c3
        go_enter Tryd.func35, Tryd.ntmps35
        go_wp2
        go_ret
        exact ⟨rfl, BX.out⟩


end Go.Proofs.YtcffgfomicpbfaaDoor.P
