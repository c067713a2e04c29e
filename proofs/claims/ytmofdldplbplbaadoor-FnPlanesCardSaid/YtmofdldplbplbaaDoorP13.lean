-- Printed by a program of this workplace (wip/xp/xp.py) over the kit's print.
import Derived.Test.YtmofdldplbplbaaDoorP0
import Derived.Test.YtmofdldplbplbaaDoorP1
import Derived.Test.YtmofdldplbplbaaDoorP6
import Derived.Test.YtmofdldplbplbaaDoorP10
import Derived.Test.YtmofdldplbplbaaDoorP12
namespace Go.Proofs.YtmofdldplbplbaaDoor.P
open Go.RowKit Go.Proofs.YtmofdldplbplbaaDoorW.PrintWords Go.Proofs.YtmofdldplbplbaaDoorW.PrintLast Go.Proofs.YtmofdldplbplbaaDoorW.PrintMore
attribute [local go_sem] max2_int min2_int max_two min_two max_three min_three max_four min_four   -- for this text's walks alone
set_option linter.unusedVariables false
set_option linter.unusedSimpArgs false

/-! ### impl_PlaneGraph: function 52 -/
def impl_PlaneGraph.is (n q : Int) (l : List (List Int)) (v u : Int) : Option Bool := if v < n then (if u ≥ n then (if 0 ≤ v then (if v < (l.length : Int) then (if 0 ≤ wrap64 (u - n) then (if wrap64 (u - n) < (l.length : Int) then impl_isOn.f q (rd_L2 l v) (rd_L2 l (wrap64 (u - n))) else none) else none) else none) else none) else some false) else some false
set_option maxHeartbeats 4000000 in
theorem impl_PlaneGraph.lit (A : Option Addr) (c : Nat) (l : List (List Int)) (gn gq g : Nat) (n q v u : Int) (b : Bool) (W : World) (hN : W.heap[gn]? = some (.cells #[.int .i64 n] 2 (0, 0))) (hQ : W.heap[gq]? = some (.cells #[.int .i64 q] 2 (0, 0))) (hB : W.heap[g]? = some (.cells #[.slice A l.length c] 49 (0, 0)))
    (hr : Kd.C (Kd.slice 2 (Kd.int .i64)) W A l.length l) (h : impl_PlaneGraph.is n q l v u = some b) :
    Calls Tryd.prog 127 #[.int .i64 v, .int .i64 u, .pointer (some ⟨gn, 0, none⟩), .pointer (some ⟨gq, 0, none⟩), .pointer (some ⟨g, 0, none⟩)] W fun e w' => e = .returned (.bool b) ∧ Below W.heap.size W w' := by
  have hx0 : W.cell? ⟨g, 0, none⟩ = some (.slice A l.length c) := (blk_cell hB 0).trans rfl
  have hq0 : W.cell? ⟨gq, 0, none⟩ = some (.int .i64 q) := (blk_cell hQ 0).trans rfl
  have hn0 : W.cell? ⟨gn, 0, none⟩ = some (.int .i64 n) := (blk_cell hN 0).trans rfl
  clear hB hQ hN
  unfold impl_PlaneGraph.is at h
  split at h
  case isFalse p =>
    obtain rfl := Option.some.inj h
    have d1 := decide_eq_false p
    clear h p hr
    go_enter Tryd.func127, Tryd.ntmps127
    go_wp2_with fail
    go_quiet (fail)
    go_wp2
    go_ret
    exact ⟨by first | rfl | (simp; done) | (simp [*]; done), by repeat (first | exact Below.refl _ _ | apply below_drew | apply pw_below_drewN | apply below_alloc)⟩
  case isTrue p =>
  split at h
  case isFalse p' =>
    obtain rfl := Option.some.inj h
    have d1 := decide_eq_true p
    have d2 := decide_eq_false p'
    clear h p p' hr
    go_enter Tryd.func127, Tryd.ntmps127
    go_wp2_with fail
    go_quiet (fail)
    go_wp2
    go_ret
    exact ⟨by first | rfl | (simp; done) | (simp [*]; done), by repeat (first | exact Below.refl _ _ | apply below_drew | apply pw_below_drewN | apply below_alloc)⟩
  case isTrue p' =>
  have d1 := decide_eq_true p
  have d2 := decide_eq_true p'
  clear p p'
  obtain ⟨m, hm⟩ : ∃ m : Int, wrap64 (u - n) = m := ⟨_, rfl⟩
  rw [hm] at h
  split at h
  case isFalse => cases h
  case isTrue p0 =>
  split at h
  case isFalse => cases h
  case isTrue p1 =>
  split at h
  case isFalse => cases h
  case isTrue p3 =>
  split at h
  case isFalse => cases h
  case isTrue p4 =>
  obtain ⟨ad, A0, c0, ea, hx1, hl1, hi1⟩ := at_L2 hr v p0 p1
  obtain ⟨ad', A1, c1, ea', hx2, hl2, hi2⟩ := at_L2 hr m p3 p4
  cases ea
  cases ea'
  have HI1 := Aside0.mk hi1
  have HI2 := Aside0.mk hi2
  have HL1 := Aside0.mk hl1
  have HL2 := Aside0.mk hl2
  have HH := Aside0.mk h
  clear hr hi1 hi2 hl1 hl2 h
  generalize rd_L2 l v = x1 at hx1 HI1 HL1 HH
  generalize rd_L2 l m = x2 at hx2 HI2 HL2 HH
  replace p0 := eq_true p0
  replace p1 := eq_true p1
  replace p3 := eq_true p3
  replace p4 := eq_true p4
  go_enter Tryd.func127, Tryd.ntmps127
  go_wp2_with fail
  go_quiet ((go_at_call 128; refine Calls.quiet_of ((impl_isOn.calls q _ _ x1 _ _ x2 b _ (Kd.C_drewN HI1.out _) HL1.out (Kd.C_drewN HI2.out _) HL2.out HH.out).mono fun e w' ⟨he, hd⟩ => ⟨he, hd.out⟩)))
  go_wp2
  all_goals (go_ret; exact ⟨by first | rfl | (simp; done) | (simp [*]; done), by repeat (first | exact Below.refl _ _ | apply below_drew | apply pw_below_drewN | apply below_alloc)⟩)
def impl_PlaneGraph.f (k : Nat) (a0 : Int) : Option (Int × List Int × Int) := (impl_isPrime.f a0).bind fun t => (if t = true then ((impl_points.f k a0).bind fun l => (if wrap64 (2 * (l.length : Int)) > 62 then (some (0, ([] : List Int), 3)) else ((impl_made.f (impl_PlaneGraph.is (l.length : Int) a0 l) k (wrap64 (2 * (l.length : Int)))).bind fun bt => (some (bt.1, bt.2, 0))))) else (some (0, ([] : List Int), 2)))
set_option maxHeartbeats 8000000 in
set_option maxRecDepth 100000 in
theorem impl_PlaneGraph.calls (k : Nat) (a0 : Int) (r1 : Int) (r2 : List Int) (r3 : Int) (w : World) (h : impl_PlaneGraph.f k a0 = some (r1, r2, r3)) :
    Calls Tryd.prog 52 #[.int .i64 a0] w fun e w' => ∃ v1_ : Value, e = .returned (.tuple #[.agg #[.int .i64 r1, v1_], .int .i64 r3]) ∧ Kd.R (Kd.int .i64) 2 w' w.heap.size (fun _ => True) v1_ r2 ∧ Below w.heap.size w w' := by
  have hu := Tryd.underlying26
  unfold impl_PlaneGraph.f at h
  obtain ⟨t, A1, h⟩ := Option.bind_eq_some_iff.mp h
  have HA1 := Aside0.mk A1
  have H := Aside0.mk h
  clear A1 h
  have HB := Aside0.mk (Below.refl w.heap.size w)
  go_enter Tryd.func52, Tryd.ntmps52
  go_wp2_with (first | (refine Y4 1 #[.int .i64 a0] 2 ?_; intro gq hgq w1 hbq hb1; have BKq := Aside0.mk hbq; have GQ := Aside0.mk (show w.heap.size ≤ gq by rw [hgq]; exact Nat.le_refl _); replace HB := Aside0.mk (below_step HB.out hb1); clear hbq hb1 hgq) | (refine Y4 2 #[.int .i64 0, .slice none 0 0] 26 ?_; intro gr hgr w2 hbr hb2; have NE := Aside0.mk (show gq ≠ gr by rw [hgr]; exact Nat.ne_of_lt (blk_lt BKq.out)); have GR := Aside0.mk (show w.heap.size ≤ gr by rw [hgr]; exact HB.out.size); replace BKq := Aside0.mk (blk_below BKq.out hb2); have BKr := Aside0.mk hbr; replace HB := Aside0.mk (below_step HB.out hb2); clear hbr hb2 hgr; obtain ⟨hcq, hfq⟩ := Y1 BKq))
  refine (impl_isPrime.calls a0 t _ HA1.out).mono ?_
  rintro e w3 ⟨rfl, hd⟩
  have hb3 := hd.below
  clear hd hcq hfq
  replace BKq := Aside0.mk (blk_below (Ye BKq) hb3)
  replace BKr := Aside0.mk (blk_below (Ye BKr) hb3)
  replace HB := Aside0.mk (below_step (Ya) hb3)
  clear hb3
  obtain ⟨hcq, hfq⟩ := Y1 BKq
  obtain ⟨hcz0, hcz1, hfz0, hfz1⟩ := Y2 BKr
  cases t with
  | false =>
    have h := H.out
    rw [if_neg (by decide)] at h
    simp only [Option.some.injEq, Prod.mk.injEq] at h
    obtain ⟨rfl, rfl, rfl⟩ := h
    go_wp2
    refine bodyPost_ret (results_ct rfl _ _ gr 26 #[.int .i64 0, .slice none 0 0] (0, 0) _ rfl (by refine blk_put (cs := #[.int .i64 0, .slice none 0 0]) ?_ 1 _ rfl; refine blk_put (cs := #[.int .i64 0, .slice none 0 0]) ?_ 0 _ rfl; exact BKr.out) Tryd.underlying26 rfl (by kernel_rfl)) rfl ?_
    exact ⟨_, Yl, Kd.R_nil _ _ _ _ _, Ya⟩
  | true =>
    have h := H.out
    rw [if_pos rfl] at h
    obtain ⟨l, A2, h⟩ := Option.bind_eq_some_iff.mp h
    have HA2 := Aside0.mk A2
    have H2 := Aside0.mk h
    clear A2 h H
    go_wp2_with fail
    refine (impl_points.calls k a0 l _ HA2.out).mono ?_
    rintro e w4 ⟨v0, rfl, hN, hb4⟩
    obtain ⟨Ao, co, eo⟩ := Kd.N_slice hN
    subst eo
    have HN := Aside0.mk hN
    clear hN hcq hfq hcz0 hcz1 hfz0 hfz1
    replace BKq := Aside0.mk (blk_below (Ye BKq) hb4)
    replace BKr := Aside0.mk (blk_below (Ye BKr) hb4)
    replace HB := Aside0.mk (below_step (Ya) hb4)
    clear hb4
    have step5 : ∀ (gl : Nat), gl = w4.heap.size → ∀ w5 : World, w5.heap[gl]? = some (.cells #[.slice none 0 0] 49 (0, 0)) → Below w4.heap.size w4 w5 → (gq ≠ gl ∧ gr ≠ gl ∧ w.heap.size ≤ gl) ∧ Kd.N (Kd.slice 2 (Kd.int .i64)) 24 w5 w3.heap.size (fun k => w3.heap.size ≤ k ∧ k ≠ gl) (.slice Ao l.length co) l ∧ w5.heap[gq]? = some (.cells #[.int .i64 a0] 2 (0, 0)) ∧ w5.heap[gr]? = some (.cells #[.int .i64 0, .slice none 0 0] 26 (0, 0)) ∧ Below w.heap.size w w5 := by
      intro gl hgl w5 hbl hb5
      exact ⟨⟨by rw [hgl]; exact Nat.ne_of_lt (blk_lt BKq.out), by rw [hgl]; exact Nat.ne_of_lt (blk_lt BKr.out), by rw [hgl]; exact HB.out.size⟩, Kd.N_below (Kd.N_elderB HN.out gl (by rw [hgl]; exact Nat.le_refl _)) hb5, blk_below BKq.out hb5, blk_below BKr.out hb5, below_step HB.out hb5⟩
    have S5 := Aside0.mk step5
    clear step5
    clear HN HB
    by_cases cc : wrap64 (2 * (l.length : Int)) > 62
    · have h := H2.out
      rw [if_pos cc] at h
      simp only [Option.some.injEq, Prod.mk.injEq] at h
      obtain ⟨rfl, rfl, rfl⟩ := h
      have dc := decide_eq_true cc
      clear cc
      go_wp2_with (first | (refine Y4 4 #[.slice none 0 0] 49 ?_; intro gl hgl w5 hbl hb5; obtain ⟨⟨nq, nr, gel⟩, hN5, hq5, hr5, hB5⟩ := S5.out gl hgl w5 hbl hb5; replace BKq := Aside0.mk hq5; replace BKr := Aside0.mk hr5; have BKl := Aside0.mk hbl; have HN := Aside0.mk hN5; have HB := Aside0.mk hB5; have NQ := Aside0.mk nq; have NR := Aside0.mk nr; have GL := Aside0.mk gel; clear nq nr gel hN5 hq5 hr5 hB5 hbl hb5 hgl S5; obtain ⟨hcl, hfl⟩ := Y1 BKl) | (refine Y4 5 #[.int .i64 0] 2 ?_; intro gn hgn w6 hbn hb6; have NNq := Aside0.mk (show gq ≠ gn by rw [hgn]; exact Nat.ne_of_lt (blk_lt (blk_far (p := ⟨gl, 0, none⟩) BKq.out NQ.out (.slice Ao l.length co)))); have NNr := Aside0.mk (show gr ≠ gn by rw [hgn]; exact Nat.ne_of_lt (blk_lt (blk_far (p := ⟨gl, 0, none⟩) BKr.out NR.out (.slice Ao l.length co)))); have NNl := Aside0.mk (show gl ≠ gn by rw [hgn]; exact Nat.ne_of_lt (blk_lt (blk_put BKl.out 0 (.slice Ao l.length co) rfl))); have GN := Aside0.mk (show w.heap.size ≤ gn by rw [hgn]; exact (below_set (j := 0) (v := (.slice Ao l.length co)) HB.out GL.out).size); replace HN := Aside0.mk (Kd.N_below (Kd.N_elderB (Kd.N_far (p := ⟨gl, 0, none⟩) HN.out (fun k hk => hk.2) (.slice Ao l.length co)) gn (by rw [hgn]; exact Nat.le_refl _)) hb6); replace BKq := Aside0.mk (blk_below (blk_far (p := ⟨gl, 0, none⟩) BKq.out NQ.out (.slice Ao l.length co)) hb6); replace BKr := Aside0.mk (blk_below (blk_far (p := ⟨gl, 0, none⟩) BKr.out NR.out (.slice Ao l.length co)) hb6); replace BKl := Aside0.mk (blk_below (blk_put BKl.out 0 (.slice Ao l.length co) rfl) hb6); have BKn := Aside0.mk hbn; replace HB := Aside0.mk (below_step (below_set (j := 0) (v := (.slice Ao l.length co)) HB.out GL.out) hb6); clear hbn hb6 hgn hcl hfl; obtain ⟨hcl, hfl⟩ := Y1 BKl; obtain ⟨hcn, hfn⟩ := Y1 BKn; obtain ⟨hcz0, hcz1, hfz0, hfz1⟩ := Y2 BKr; have hnr := NNr.out; have hnr' := Ne.symm NNr.out))
      refine bodyPost_ret (results_ct rfl _ _ gr 26 #[.int .i64 0, .slice none 0 0] (0, 0) _ rfl (by refine blk_put (cs := #[.int .i64 0, .slice none 0 0]) ?_ 1 _ rfl; refine blk_put (cs := #[.int .i64 0, .slice none 0 0]) ?_ 0 _ rfl; exact blk_far (p := ⟨gn, 0, none⟩) BKr.out NNr.out _) Tryd.underlying26 rfl (by kernel_rfl)) rfl ?_
      exact ⟨_, Yl, Kd.R_nil _ _ _ _ _, below_set (below_set (below_set HB.out GN.out) GR.out) GR.out⟩
    · have h := H2.out
      rw [if_neg cc] at h
      obtain ⟨⟨t1, t2⟩, A3, h⟩ := Option.bind_eq_some_iff.mp h
      obtain ⟨rfl, rfl, rfl⟩ : t1 = r1 ∧ t2 = r2 ∧ 0 = r3 := by simpa using h
      have HA3 := Aside0.mk A3
      clear A3 h
      have dc := decide_eq_false cc
      clear cc
      go_wp2_with (first | (refine Y4 4 #[.slice none 0 0] 49 ?_; intro gl hgl w5 hbl hb5; obtain ⟨⟨nq, nr, gel⟩, hN5, hq5, hr5, hB5⟩ := S5.out gl hgl w5 hbl hb5; replace BKq := Aside0.mk hq5; replace BKr := Aside0.mk hr5; have BKl := Aside0.mk hbl; have HN := Aside0.mk hN5; have HB := Aside0.mk hB5; have NQ := Aside0.mk nq; have NR := Aside0.mk nr; have GL := Aside0.mk gel; clear nq nr gel hN5 hq5 hr5 hB5 hbl hb5 hgl S5; obtain ⟨hcl, hfl⟩ := Y1 BKl) | (refine Y4 5 #[.int .i64 0] 2 ?_; intro gn hgn w6 hbn hb6; have NNq := Aside0.mk (show gq ≠ gn by rw [hgn]; exact Nat.ne_of_lt (blk_lt (blk_far (p := ⟨gl, 0, none⟩) BKq.out NQ.out (.slice Ao l.length co)))); have NNr := Aside0.mk (show gr ≠ gn by rw [hgn]; exact Nat.ne_of_lt (blk_lt (blk_far (p := ⟨gl, 0, none⟩) BKr.out NR.out (.slice Ao l.length co)))); have NNl := Aside0.mk (show gl ≠ gn by rw [hgn]; exact Nat.ne_of_lt (blk_lt (blk_put BKl.out 0 (.slice Ao l.length co) rfl))); have GN := Aside0.mk (show w.heap.size ≤ gn by rw [hgn]; exact (below_set (j := 0) (v := (.slice Ao l.length co)) HB.out GL.out).size); replace HN := Aside0.mk (Kd.N_below (Kd.N_elderB (Kd.N_far (p := ⟨gl, 0, none⟩) HN.out (fun k hk => hk.2) (.slice Ao l.length co)) gn (by rw [hgn]; exact Nat.le_refl _)) hb6); replace BKq := Aside0.mk (blk_below (blk_far (p := ⟨gl, 0, none⟩) BKq.out NQ.out (.slice Ao l.length co)) hb6); replace BKr := Aside0.mk (blk_below (blk_far (p := ⟨gl, 0, none⟩) BKr.out NR.out (.slice Ao l.length co)) hb6); replace BKl := Aside0.mk (blk_below (blk_put BKl.out 0 (.slice Ao l.length co) rfl) hb6); have BKn := Aside0.mk hbn; replace HB := Aside0.mk (below_step (below_set (j := 0) (v := (.slice Ao l.length co)) HB.out GL.out) hb6); clear hbn hb6 hgn hcl hfl; obtain ⟨hcl, hfl⟩ := Y1 BKl; obtain ⟨hcn, hfn⟩ := Y1 BKn; obtain ⟨hcz0, hcz1, hfz0, hfz1⟩ := Y2 BKr; have hnr := NNr.out; have hnr' := Ne.symm NNr.out))
      have HA3' := HA3.out
      have HK := fun W hq => impl_made.calls (impl_PlaneGraph.is (l.length : Int) a0 l) 127 #[.pointer (some ⟨gn, 0, none⟩), .pointer (some ⟨gq, 0, none⟩), .pointer (some ⟨gl, 0, none⟩)] (enters_of Tryd.func127 (by kernel_rfl) rfl) k (wrap64 (2 * (l.length : Int))) t1 t2 W hq HA3'
      clear HA3'
      refine (HK _ ?hq).mono ?_
      case hq =>
        intro x y b W hb hxy
        exact impl_PlaneGraph.lit Ao co l gn gq gl (l.length : Int) a0 x y b W (blk_below (blk_put BKn.out 0 (.int .i64 (l.length : Int)) rfl) hb) (blk_below (blk_far (p := ⟨gn, 0, none⟩) BKq.out NNq.out _) hb) (blk_below (blk_far (p := ⟨gn, 0, none⟩) BKl.out NNl.out _) hb) (Kd.C_below (Kd.N_reads' (Kd.N_far HN.out (p := ⟨gn, 0, none⟩) (fun k hk => hk.2) _)).2.2 hb) hxy
      rintro e w7 ⟨v1, rfl, hR, hb⟩
      have BKu := Aside0.mk (blk_below (blk_far (p := ⟨gn, 0, none⟩) BKr.out NNr.out _) hb)
      have HS := Aside0.mk (below_set (j := 0) (v := .int .i64 (l.length : Int)) HB.out GN.out).size
      have HB6 := Aside0.mk (below_step (below_set (j := 0) (v := .int .i64 (l.length : Int)) HB.out GN.out) hb)
      have HO := Aside0.mk (Kd.R_lower (base' := w.heap.size) hR HS.out)
      clear hR hb hcz0 hcz1 hfz0 hfz1
      obtain ⟨Ap, cp, ep⟩ := Kd.R_slice HO.out
      subst ep
      obtain ⟨hcz0, hcz1, hfz0, hfz1⟩ := Y2 BKu
      go_wp2
      refine bodyPost_ret (results_ct rfl _ _ gr 26 #[.int .i64 t1, .slice Ap t2.length cp] (0, 0) _ rfl (by refine blk_put (cs := #[.int .i64 t1, .slice none 0 0]) ?_ 1 _ rfl; refine blk_put (cs := #[.int .i64 0, .slice none 0 0]) ?_ 0 _ rfl; exact BKu.out) Tryd.underlying26 rfl (by kernel_rfl)) rfl ?_
      exact ⟨_, Yl, Kd.R_mono (Kd.R_far (p := ⟨gr, 1, none⟩) (Kd.R_far (p := ⟨gr, 0, none⟩) (Kd.R_types HO.out BKu.out (by decide)) (fun _ hk => hk.2) (.int .i64 t1)) (fun _ hk => hk.2) (.slice Ap t2.length cp)) (fun _ _ => trivial), below_set (below_set HB6.out GR.out) GR.out⟩

end Go.Proofs.YtmofdldplbplbaaDoor.P
