/- The least inverse, found by both. -/
import Derived.Test.YtjebhipbdledfaaP6
import Derived.Test.YtjebhipbdledfaaQGroupFn
namespace Go.Proofs.Ytjebhipbdledfaa.Q
open Go Go.RowKit Go.Proofs.Ytjebhipbdledfaa.P Go.Proofs.YtjebhipbdledfaaW.PrintWords Go.Proofs.YtjebhipbdledfaaW.PrintMore
theorem inv_from {k p x : Int} (hg : gok k p) (x0 : 0 ≤ x) (x1 : x < gord k p) (z : Int) (z1 : z < gord k p) (hz : gmul k p x z = 0) (d : Nat) : ∀ y : Int, 0 ≤ y → y ≤ z → z - y = d →
    ∃ r, (0 ≤ r ∧ r < gord k p) ∧ gmul k p x r = 0 ∧ (∀ q, y ≤ q → q < r → gmul k p x q ≠ 0) ∧ Ev (fun n => spec_l05Inverse.l0 n x y k p) r ∧ Ev (fun n => impl_Group_inverse.l0 n x y k p) r := by
  have ho := gord_pos hg
  induction d with
  | zero =>
    intro y y0 y1 hd
    obtain rfl : y = z := by omega
    refine ⟨y, ⟨y0, z1⟩, hz, fun q _ _ => by omega, ?_, ?_⟩
    · refine ev_k ?_
      simp only [spec_l05Inverse.l0, s_times hg x0 x1 y0 z1, Option.bind_some]
      exact ev_pos hz (Ev.now _)
    · refine ev_k ?_
      simp only [impl_Group_inverse.l0, i_product hg x0 x1 y0 z1, Option.bind_some]
      exact ev_pos hz (Ev.now _)
  | succ d ih =>
    intro y y0 y1 hd
    by_cases hy : gmul k p x y = 0
    · refine ⟨y, ⟨y0, by omega⟩, hy, fun q _ _ => by omega, ?_, ?_⟩
      · refine ev_k ?_
        simp only [spec_l05Inverse.l0, s_times hg x0 x1 y0 (show y < gord k p by omega), Option.bind_some]
        exact ev_pos hy (Ev.now _)
      · refine ev_k ?_
        simp only [impl_Group_inverse.l0, i_product hg x0 x1 y0 (show y < gord k p by omega), Option.bind_some]
        exact ev_pos hy (Ev.now _)
    · obtain ⟨r, r01, rz, rm, hs, hi⟩ := ih (y + 1) (by omega) (by omega) (by omega)
      refine ⟨r, r01, rz, fun q q0 q1 => if e : q = y then by rw [e]; exact hy else rm q (by omega) q1, ?_, ?_⟩
      · refine ev_k ?_
        simp only [spec_l05Inverse.l0, s_times hg x0 x1 y0 (show y < gord k p by omega), Option.bind_some]
        refine ev_neg hy ?_
        rw [w64 (a := y + 1) (by omega) (by omega)]
        exact hs
      · refine ev_k ?_
        simp only [impl_Group_inverse.l0, i_product hg x0 x1 y0 (show y < gord k p by omega), Option.bind_some]
        refine ev_neg hy ?_
        rw [w64 (a := y + 1) (by omega) (by omega)]
        exact hi
theorem inverses {k p x : Int} (hg : gok k p) (x0 : 0 ≤ x) (x1 : x < gord k p) :
    ∃ r, (0 ≤ r ∧ r < gord k p) ∧ gmul k p x r = 0 ∧ (∀ q, 0 ≤ q → q < r → gmul k p x q ≠ 0) ∧ Ev (fun n => spec_l05Inverse.f n k p x) r ∧ Ev (fun n => impl_Group_inverse.f n k p x) r := by
  obtain ⟨z, z0, z1, hz⟩ := gmul_inv hg x0 x1
  unfold spec_l05Inverse.f impl_Group_inverse.f
  exact inv_from hg x0 x1 z z1 hz z.toNat 0 (by omega) z0 (by omega)
end Go.Proofs.Ytjebhipbdledfaa.Q
