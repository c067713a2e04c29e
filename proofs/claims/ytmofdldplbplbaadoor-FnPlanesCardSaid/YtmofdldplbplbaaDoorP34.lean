-- Printed by a program of this workplace (wip/xp/xp.py) over the kit's print.
import Derived.Test.YtmofdldplbplbaaDoorP0
namespace Go.Proofs.YtmofdldplbplbaaDoor.P
open Go.RowKit Go.Proofs.YtmofdldplbplbaaDoorW.PrintWords Go.Proofs.YtmofdldplbplbaaDoorW.PrintLast Go.Proofs.YtmofdldplbplbaaDoorW.PrintMore
attribute [local go_sem] max2_int min2_int max_two min_two max_three min_three max_four min_four   -- for this text's walks alone
set_option linter.unusedVariables false
set_option linter.unusedSimpArgs false

/-! ### bits_TrailingZeros64: function 166 -/
theorem bits_TrailingZeros64.key (x a : Nat) (hx : x < 18446744073709551616) (hlow : x &&& (18446744073709551616 - x) = a) (hx0 : x ≠ 0) :
    IntKind.u64.wrap (bits BinOp.and IntKind.u64 (x : Int) (IntKind.u64.wrap (-(x : Int))) * 285870213051353865) / 288230376151711744 = ((a * 285870213051353865 % 18446744073709551616 / 288230376151711744 : Nat) : Int) := by
  have e1 : IntKind.u64.wrap (-(x : Int)) = ((18446744073709551616 - x : Nat) : Int) := by rw [IntKind.wrap_u64]; omega
  rw [e1, bits_and_u64_nat x _ hx (by omega), hlow, IntKind.wrap_u64]
  omega
theorem bits_TrailingZeros64.all (x : Nat) (hx : x < 18446744073709551616) (hx0 : x ≠ 0) (w : World) (hT : TabW w) : ∃ idx kk : Int, 0 ≤ idx ∧ idx < 64 ∧ IntKind.u64.wrap (bits BinOp.and IntKind.u64 (x : Int) (IntKind.u64.wrap (-(x : Int))) * 285870213051353865) / 288230376151711744 = idx ∧ w.cell? ⟨0, idx.toNat, none⟩ = some (.int .u8 kk) ∧ ((Lib.ctz 64 x : Nat) : Int) = kk ∧ 0 ≤ kk ∧ kk < 64 := by
  obtain ⟨hlow, hk⟩ := Lib.lowest_bit 64 x hx0 hx
  obtain ⟨hi, htab⟩ := Lib.deBruijn64_at _ hk
  have hcell := hT _ hi
  rw [htab] at hcell
  have key := bits_TrailingZeros64.key x _ hx hlow hx0
  generalize Lib.ctz 64 x = k at *
  generalize 2 ^ k * 285870213051353865 % 18446744073709551616 / 288230376151711744 = idx at *
  exact ⟨idx, k, by omega, by omega, key, by rw [Int.toNat_natCast]; exact hcell, rfl, by omega, by omega⟩
def bits_TrailingZeros64.f (a0 : Int) : Option (Int) := if 0 ≤ a0 then if a0 < 18446744073709551616 then some ((Lib.ctz 64 a0.toNat : Nat) : Int) else none else none
set_option maxHeartbeats 8000000 in
set_option maxRecDepth 100000 in
theorem bits_TrailingZeros64.calls (a0 : Int) (r : Int) (w : World) (hT : TabW w) (h : bits_TrailingZeros64.f a0 = some r) :
    Calls Tryd.prog 166 #[.int .u64 a0] w fun e w' => e = .returned (.int .i64 r) ∧ Drawn0 w w' := by
  unfold bits_TrailingZeros64.f at h
  split at h
  case isFalse => cases h
  case isTrue h0 =>
  split at h
  case isFalse => cases h
  case isTrue h1 =>
  obtain rfl := Option.some.inj h
  clear h
  by_cases hx0 : a0 = 0
  · subst hx0
    go_enter Tryd.func166, Tryd.ntmps166
    go_wp2
    go_ret
    exact ⟨rfl, Drawn0.refl _⟩
  · have ha := bits_TrailingZeros64.all a0.toNat (by omega) (by omega) w hT
    rw [Int.toNat_of_nonneg h0] at ha
    obtain ⟨idx, kk, i0, i1, key, hcell, e, k0, k1⟩ := ha
    rw [e]
    have hx1 : (a0 == 0) = false := by simpa using hx0
    have kw : IntKind.i64.wrap kk = kk := by rw [IntKind.wrap_i64]; omega
    have KEY := Aside0.mk key
    have p0 := eq_true i0
    have p1 := eq_true i1
    clear key hT hx0 e h0 h1 i0 i1 k0 k1
    go_enter Tryd.func166, Tryd.ntmps166
    go_wp2_with (simp only [KEY.out])
    go_ret
    exact ⟨rfl, Drawn0.refl _⟩

end Go.Proofs.YtmofdldplbplbaaDoor.P
