-- Printed by a program of this workplace (wip/xp/xp.py) over the kit's print.
import Derived.Test.YtcffgfomicpbfaaP0
import Derived.Test.YtcffgfomicpbfaaP1
import Derived.Test.YtcffgfomicpbfaaP17
import Derived.Test.YtcffgfomicpbfaaP18
namespace Go.Proofs.Ytcffgfomicpbfaa.P
open Go.RowKit Go.Proofs.YtcffgfomicpbfaaW.PrintWords Go.Proofs.YtcffgfomicpbfaaW.PrintLast Go.Proofs.YtcffgfomicpbfaaW.PrintMore
attribute [local go_sem] max2_int min2_int max_two min_two max_three min_three max_four min_four   -- for this text's walks alone
set_option linter.unusedVariables false
set_option linter.unusedSimpArgs false

/-! ### impl_kautz: function 63 -/
def impl_kautz.is (k : Nat) (m : Int) (l : List (List Int)) (v u : Int) : Option Bool := if 0 ≤ v then (if v < (l.length : Int) then (if 1 ≤ m then (if m ≤ ((rd_L1 l v).length : Int) then (if 0 ≤ u then (if u < (l.length : Int) then (if m ≤ ((rd_L1 l u).length : Int) then ((slices_Equal_int64_int64.f k ((rd_L1 l v).drop 1) ((rd_L1 l u).take (m - 1).toNat)).bind fun e => some (e && (rd (rd_L1 l v) (m - 1) != rd (rd_L1 l u) (m - 1)))) else none) else none) else none) else none) else none) else none) else none
set_option maxHeartbeats 4000000 in
theorem impl_kautz.lit (k : Nat) (m : Int) (A : Option Addr) (c : Nat) (l : List (List Int)) (g g2 : Nat) (v u : Int) (b : Bool) (W : World) (hB : W.heap[g]? = some (.cells #[.slice A l.length c] 28 (0, 0))) (hB2 : W.heap[g2]? = some (.cells #[.int .i64 m] 2 (0, 0)))
    (hr : Kd.C (Kd.slice 2 (Kd.int .i64)) W A l.length l) (h : impl_kautz.is k m l v u = some b) :
    Calls Try.prog 79 #[.int .i64 v, .int .i64 u, .pointer (some ⟨g, 0, none⟩), .pointer (some ⟨g2, 0, none⟩)] W fun e w' => e = .returned (.bool b) ∧ Below W.heap.size W w' := by
  have hx0 : W.cell? ⟨g, 0, none⟩ = some (.slice A l.length c) := (blk_cell hB 0).trans rfl
  have hx9 : W.cell? ⟨g2, 0, none⟩ = some (.int .i64 m) := (blk_cell hB2 0).trans rfl
  clear hB hB2
  unfold impl_kautz.is at h
  split at h
  case isFalse => cases h
  case isTrue p0 =>
  split at h
  case isFalse => cases h
  case isTrue p1 =>
  split at h
  case isFalse => cases h
  case isTrue pm =>
  split at h
  case isFalse => cases h
  case isTrue p2 =>
  split at h
  case isFalse => cases h
  case isTrue p3 =>
  split at h
  case isFalse => cases h
  case isTrue p4 =>
  split at h
  case isFalse => cases h
  case isTrue p5 =>
  obtain ⟨ad, A0, c0, ea, hx1, hl1, hi1⟩ := at_L1 hr v p0 p1
  obtain ⟨ad', A1, c1, ea', hx2, hl2, hi2⟩ := at_L1 hr u p3 p4
  cases ea
  cases ea'
  obtain ⟨x, hx_⟩ : ∃ x, rd_L1 l v = x := ⟨_, rfl⟩
  obtain ⟨y, hy_⟩ : ∃ y, rd_L1 l u = y := ⟨_, rfl⟩
  rw [hx_] at h hx1 hl1 hi1 p2
  rw [hy_] at h hx2 hl2 hi2 p5
  clear hx_ hy_ hr
  obtain ⟨e, he, h⟩ := Option.bind_eq_some_iff.mp h
  obtain rfl := Option.some.inj h
  have H := Aside0.mk he
  clear h he
  obtain ⟨ad0, e0, hxa⟩ := Kd.at_int hi1 (m - 1) (by omega) (by omega)
  obtain ⟨ad1, e1, hya⟩ := Kd.at_int hi2 (m - 1) (by omega) (by omega)
  cases e0
  cases e1
  have eP : (some ad0).map (fun x => x.add (1 * (Kd.int .i64).sz)) = some ({ block := ad0.block, off := ad0.off + 1 } : Addr) := rfl
  have D1_ := Kd.C_drop hi1 (m := 1) (by omega) hl1
  rw [eP] at D1_
  have D1 := Aside0.mk D1_
  clear eP D1_
  have e1 : x.length - 1 = (x.drop 1).length := List.length_drop.symm
  have e2 : m.toNat - 1 = (y.take (m - 1).toNat).length := by rw [List.length_take]; omega
  have E1 := Aside0.mk e1
  have E2 := Aside0.mk e2
  clear e1 e2
  have hm2 := hi2.2.1
  have D2 := Aside0.mk (Kd.C_take hi2 (m := (m - 1).toNat) (by omega))
  have HL1 := Aside0.mk hl1
  have HL2 := Aside0.mk hl2
  have P2 := Aside0.mk p2
  have P5 := Aside0.mk p5
  have PM := Aside0.mk pm
  clear hi1 hi2
  have hc0 : (x.length : Int) ≤ (c0 : Int) := by omega
  have hc1 : (y.length : Int) ≤ (c1 : Int) := by omega
  have w5 : IntKind.i64.wrap (m - 1) = m - 1 := by rw [IntKind.wrap_i64]; omega
  clear hm2
  have z1 : (1 : Int) ≤ (x.length : Int) := by omega
  have z2 : 0 ≤ m - 1 := by omega
  have z3 : m - 1 ≤ (y.length : Int) := by omega
  have z4 : m - 1 ≤ (c1 : Int) := by omega
  have z6 : (m - 1 < (x.length : Int)) = True := eq_true (by omega)
  have z7 : (m - 1 < (y.length : Int)) = True := eq_true (by omega)
  obtain ⟨px, hpx⟩ : ∃ z, rd x (m - 1) = z := ⟨_, rfl⟩
  obtain ⟨py, hpy⟩ : ∃ z, rd y (m - 1) = z := ⟨_, rfl⟩
  rw [show (m - 1).toNat = m.toNat - 1 by omega] at hxa hya
  rw [hpx] at hxa
  rw [hpy] at hya
  rw [hpx, hpy]
  clear hpx hpy
  replace p0 := eq_true p0
  replace p1 := eq_true p1
  replace p3 := eq_true p3
  replace p4 := eq_true p4
  clear hl1 hl2 p2 p5 pm
  cases e with
  | true =>
    go_enter Try.func79, Try.ntmps79
    go_wp2_with fail
    go_quiet ((go_at_call 78; rw [E1.out]; (try (conv => { arg 3; rw [E2.out] })); refine Calls.quiet_of ((slices_Equal_int64_int64.calls k _ _ (x.drop 1) _ _ (y.take (m - 1).toNat) _ _ (Kd.C_drewN D1.out _) (by have := HL1.out; rw [List.length_drop]; omega) (Kd.C_drewN D2.out _) (by have := HL2.out; have := PM.out; have := P5.out; rw [List.length_take]; omega) H.out).mono fun e w' ⟨he, hd⟩ => ⟨he, hd.out⟩)))
    go_wp2
    all_goals (go_ret; exact ⟨by first | rfl | (simp; done) | (simp [*]; done), by first | exact Below.refl _ _ | exact below_drew (Below.refl _ _) | exact pw_below_drewN (Below.refl _ _) _⟩)
  | false =>
    go_enter Try.func79, Try.ntmps79
    go_wp2_with fail
    go_quiet ((go_at_call 78; rw [E1.out]; (try (conv => { arg 3; rw [E2.out] })); refine Calls.quiet_of ((slices_Equal_int64_int64.calls k _ _ (x.drop 1) _ _ (y.take (m - 1).toNat) _ _ (Kd.C_drewN D1.out _) (by have := HL1.out; rw [List.length_drop]; omega) (Kd.C_drewN D2.out _) (by have := HL2.out; have := PM.out; have := P5.out; rw [List.length_take]; omega) H.out).mono fun e w' ⟨he, hd⟩ => ⟨he, hd.out⟩)))
    go_wp2
    all_goals (go_ret; exact ⟨by first | rfl | (simp; done) | (simp [*]; done), by first | exact Below.refl _ _ | exact below_drew (Below.refl _ _) | exact pw_below_drewN (Below.refl _ _) _⟩)
def impl_kautz.f (k : Nat) (a0 : Int) (a1 : Int) : Option (Int × List Int) := (impl_kautzWords.f k a0 a1).bind fun l0 => (impl_directed.f (impl_kautz.is k a1 l0) k (l0.length : Int)).bind fun bt => some (bt.1, bt.2)
set_option maxHeartbeats 8000000 in
set_option maxRecDepth 100000 in
theorem impl_kautz.calls (k : Nat) (a0 : Int) (a1 : Int) (r1 : Int) (r2 : List Int) (w : World) (h : impl_kautz.f k a0 a1 = some (r1, r2)) :
    Calls Try.prog 63 #[.int .i64 a0, .int .i64 a1] w fun e w' => ∃ v1_ : Value, e = .returned (.agg #[.int .i64 r1, v1_]) ∧ Kd.R (Kd.int .i64) 2 w' w.heap.size (fun _ => True) v1_ r2 ∧ Below w.heap.size w w' := by
  have hu := Try.underlying34
  unfold impl_kautz.f at h
  obtain ⟨es, A1, h⟩ := Option.bind_eq_some_iff.mp h
  obtain ⟨⟨t1, t2⟩, hd, h⟩ := Option.bind_eq_some_iff.mp h
  obtain ⟨rfl, rfl⟩ : t1 = r1 ∧ t2 = r2 := by simpa using h
  clear h
  have HA1 := Aside0.mk A1
  have HD := Aside0.mk hd
  clear A1 hd
  have HB := Aside0.mk (((Below.refl w.heap.size w).alloc (Nat.le_refl _) (.cells #[.int .i64 a1] 2)).alloc (by simp) (.cells #[.int .i64 0, .slice none 0 0] 34))
  go_enter Try.func63, Try.ntmps63
  go_wp2_with fail
  refine (impl_kautzWords.calls k a0 a1 es _ HA1.out).mono ?_
  rintro e w2 ⟨v0, rfl, hN, hb⟩
  obtain ⟨Ao, co, rfl⟩ := Kd.N_slice hN
  have BKk := Aside0.mk (blk_below (g := w.heap.size) (o := .cells #[.int .i64 a1] 2 (0, 0)) (blk_alloc (blk_new w _) (.cells #[.int .i64 0, .slice none 0 0] 34)) hb)
  have BKr := Aside0.mk (blk_below (g := w.heap.size + 1) (o := .cells #[.int .i64 0, .slice none 0 0] 34 (0, 0)) (by have := blk_new (w.alloc (.cells #[.int .i64 a1] 2)) (.cells #[.int .i64 0, .slice none 0 0] 34); simpa using this) hb)
  have HBB := Aside0.mk (below_then HB.out (by simp; omega) hb)
  have HN := Aside0.mk hN
  clear hN hb HB
  have h2 := below_size HBB.out
  have HK := fun W hq => impl_directed.calls (impl_kautz.is k a1 es) 79 #[.pointer (some ⟨w2.heap.size, 0, none⟩), .pointer (some ⟨w.heap.size, 0, none⟩)] (enters_of Try.func79 (by kernel_rfl) rfl) k (es.length : Int) t1 t2 W hq HD.out
  go_wp2_with fail
  refine (HK _ ?hq).mono ?_
  case hq =>
    intro x y b W hb hxy
    exact impl_kautz.lit k a1 Ao co es w2.heap.size w.heap.size x y b W (blk_below (blk_new w2 (.cells #[.slice Ao es.length co] 28)) hb) (blk_below (blk_alloc BKk.out (.cells #[.slice Ao es.length co] 28)) hb) (Kd.C_below (Kd.C_alloc (Kd.N_reads' HN.out).2.2 (.cells #[.slice Ao es.length co] 28)) hb) hxy
  rintro e w3 ⟨v1, rfl, hR, hb⟩
  have BK := Aside0.mk (blk_below (blk_alloc BKr.out (.cells #[.slice Ao es.length co] 28)) hb)
  have HB3 := Aside0.mk (below_then (below_alloc HBB.out (.cells #[.slice Ao es.length co] 28)) (by simp; omega) hb)
  have HO := Aside0.mk (Kd.R_lower (base' := w.heap.size) hR (by simp; omega))
  clear hR hb HBB HN BKr BKk HK HD
  obtain ⟨Ap, cp, ep⟩ := Kd.R_slice HO.out
  subst ep
  have hcz0 : w3.cell? ⟨w.heap.size + 1, 0, none⟩ = some (.int .i64 0) := (blk_cell BK.out 0).trans rfl
  have hcz1 : w3.cell? ⟨w.heap.size + 1, 1, none⟩ = some (.slice none 0 0) := (blk_cell BK.out 1).trans rfl
  have hfz0 := blk_frozen BK.out 0
  have hfz1 := blk_frozen BK.out 1
  go_wp2
  refine bodyPost_ret (results_cell_row rfl _ _ (w.heap.size + 1) 34 #[.int .i64 t1, .slice Ap t2.length cp] (0, 0) _ rfl (by refine blk_put (cs := #[.int .i64 t1, .slice none 0 0]) ?_ 1 _ rfl; refine blk_put (cs := #[.int .i64 0, .slice none 0 0]) ?_ 0 _ rfl; exact BK.out) Try.underlying34 rfl (by kernel_rfl)) rfl ?_
  exact ⟨_, rfl, Kd.R_mono (Kd.R_far (p := ⟨w.heap.size + 1, 1, none⟩) (Kd.R_far (p := ⟨w.heap.size + 1, 0, none⟩) (Kd.R_types HO.out BK.out (by decide)) (fun _ hk => hk.2) (.int .i64 t1)) (fun _ hk => hk.2) (.slice Ap t2.length cp)) (fun _ _ => trivial), below_set (below_set HB3.out (Nat.le_succ _)) (Nat.le_succ _)⟩

end Go.Proofs.Ytcffgfomicpbfaa.P
