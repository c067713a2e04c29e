-- Printed by a program of this workplace (wip/xp/xp.py) over the kit's print.
import Derived.Test.YtmofdldplbplbaaDoorP0
namespace Go.Proofs.YtmofdldplbplbaaDoor.P
open Go.RowKit Go.Proofs.YtmofdldplbplbaaDoorW.PrintWords Go.Proofs.YtmofdldplbplbaaDoorW.PrintLast Go.Proofs.YtmofdldplbplbaaDoorW.PrintMore
attribute [local go_sem] max2_int min2_int max_two min_two max_three min_three max_four min_four   -- for this text's walks alone
set_option linter.unusedVariables false
set_option linter.unusedSimpArgs false

/-! ### slices_Max_int64_int64: function 101 -/
def slices_Max_int64_int64.l0 : Nat → List Int → Int → Int → Option (Int)
  | 0, _, _, _ => none
  | k + 1, x0, x3, x4 => if x4 < (x0.length : Int) then (if 0 ≤ x4 then (slices_Max_int64_int64.l0 k x0 (mx x3 (rd x0 x4)) (wrap64 (x4 + 1))) else (none)) else (some x3)
def slices_Max_int64_int64.f (k : Nat) (l0 : List Int) : Option (Int) := if (l0.length : Int) < 1 then (none) else (if 0 < (l0.length : Int) then (slices_Max_int64_int64.l0 k l0 (rd l0 0) 1) else (none))
set_option maxHeartbeats 8000000 in
set_option maxRecDepth 100000 in
theorem slices_Max_int64_int64.calls (k : Nat) (A0 : Option Addr) (c0 : Nat) (l0 : List Int) (r : Int) (w : World) (hr0 : Kd.C (Kd.int .i64) w A0 l0.length l0) (hc0 : l0.length ≤ c0) (h : slices_Max_int64_int64.f k l0 = some r) :
    Calls Tryd.prog 101 #[.slice A0 l0.length c0] w fun e w' => e = .returned (.int .i64 r) ∧ Below w.heap.size w w' := by
  (have HR0 := Aside0.mk hr0); (have HC0 := Aside0.mk hc0); clear hr0 hc0; (have HB := Aside0.mk (Below.refl w.heap.size w)); (have H : (if (l0.length : Int) < 1 then (none) else (if 0 < (l0.length : Int) then (slices_Max_int64_int64.l0 k l0 (rd l0 0) 1) else (none))) = some r := h); clear h; (replace H := Yo H); (obtain ⟨c2, H⟩ := H); (have c2b0 : decide ((l0.length : Int) < 1) = false := decide_eq_false c2); (have c2b1 : decide (l0.length < 1) = false := decide_eq_false (by omega)); clear c2; (replace H := Yn H); (obtain ⟨c3, H⟩ := H); (have c3b0 : decide (0 < (l0.length : Int)) = true := decide_eq_true c3); (have c3b1 : decide (0 < l0.length) = true := decide_eq_true (by omega)); clear c3; (have H' := Aside0.mk H); clear H; (have p296 : 0 ≤ (0 : Int) := (by omega)); (have q296 : 0 < (l0.length : Int) := Ym); (obtain ⟨ad296, e296, hx296_0⟩ := Kd.at_int HR0.out 0 p296 q296); (cases e296); (have qi296 : (0 < l0.length) = True := eq_true (by omega)); (try rw [show ((0 : Int)).toNat = 0 from rfl] at hx296_0); (try rw [Addr.add_zero'] at hx296_0); (replace p296 := eq_true p296); (replace q296 := eq_true q296); (go_enter Tryd.func101, Tryd.ntmps101); go_wp2; (go_loopg [3, 4] k (fun kq v3 v4 w' => ∃ (x3_1 : Int) (x4_1 : Int), v3 = .int .i64 x3_1 ∧ v4 = .int .i64 x4_1 ∧ Aside0 (slices_Max_int64_int64.l0 kq l0 x3_1 x4_1 = some r) ∧ Aside0 (kq ≤ k) ∧ Aside0 (Below w.heap.size w w'))); (case atStart => exact ⟨(rd l0 0), (1), Yk, Yk, H', ⟨Nat.le_refl _⟩, ⟨Ya⟩⟩)
  case round =>
    (clear H'); (try clear c2b0); (try clear c2b1); (try clear c3b0); (try clear c3b1); (try clear hx296_0); (try clear p296); (try clear q296); (obtain ⟨x3_1, x4_1, rfl, rfl, HA, HK1, HB⟩ := hrel)
    cases gk with
    | zero => exact absurd HA.out (by simp [slices_Max_int64_int64.l0])
    | succ k1 =>
      (have H := HA.out); clear HA; (simp only [slices_Max_int64_int64.l0] at H); (replace H := Yp H); (obtain ⟨c4, H⟩ | ⟨c4, H⟩ := H); (· (have c4b0 := decide_eq_true c4); clear c4; (replace H := Dn H); (obtain ⟨c5b0, H⟩ := H); (obtain ⟨ji6, hji6⟩ := Yt (mx x3_1 (rd l0 x4_1))); (try simp only [hji6] at H); (have hji6_ : (if x3_1 < (rd l0 x4_1) then (rd l0 x4_1) else x3_1) = ji6 := hji6); (have H' := Aside0.mk H); clear H; (have p297 : 0 ≤ (x4_1 : Int) := Ym); (have q297 : x4_1 < (l0.length : Int) := Ym); (obtain ⟨ad297, e297, hx297_0⟩ := Kd.at_int HR0.out x4_1 p297 q297); (obtain rfl : ad296 = ad297 := (by injection e297)); (replace hx297_0 := (HB.out.cell (World.block_lt_of_cell? _ _ hx297_0)).trans hx297_0); (replace p297 := eq_true p297); (replace q297 := eq_true q297); go_wp2; (go_roundg k1); (case measure => have := HK1.out; omega); (case rel => exact ⟨(ji6), (wrap64 (x4_1 + 1)), (by first | rfl | (simp; done) | (simp only [← hji6] <;> (first | rfl | simp)) | (simp [*]; done)), Yk, H', ⟨by have := HK1.out; omega⟩, ⟨Ya⟩⟩))
      · have c4b0 := decide_eq_false c4
        clear c4; (obtain rfl := Option.some.inj H); go_wp2; go_ret; (exact ⟨Yl, Ya⟩)

end Go.Proofs.YtmofdldplbplbaaDoor.P
