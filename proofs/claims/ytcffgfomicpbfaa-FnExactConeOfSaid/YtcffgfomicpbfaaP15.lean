-- Printed by a program of this workplace (wip/xp/xp.py) over the kit's print.
import Derived.Test.YtcffgfomicpbfaaP0
import Derived.Test.YtcffgfomicpbfaaP12
import Derived.Test.YtcffgfomicpbfaaP13
import Derived.Test.YtcffgfomicpbfaaP14
namespace Go.Proofs.Ytcffgfomicpbfaa.P
open Go.RowKit Go.Proofs.YtcffgfomicpbfaaW.PrintWords Go.Proofs.YtcffgfomicpbfaaW.PrintLast Go.Proofs.YtcffgfomicpbfaaW.PrintMore
attribute [local go_sem] max2_int min2_int max_two min_two max_three min_three max_four min_four   -- for this text's walks alone
set_option linter.unusedVariables false
set_option linter.unusedSimpArgs false

/-! ### impl_ConeOf: function 28 -/
/-- A row of the call's own behind a copy into it. -/
theorem impl_ConeOf.copied {W : World} {base : Nat} {ok : Nat → Prop} {A0 Ao : Option Addr} {co : Nat} {l xs : List Int} (hr : Kd.C (Kd.int .i64) W A0 l.length l) (ho : Kd.R (Kd.int .i64) 2 W base ok (.slice Ao xs.length co) xs) (hp : 0 < l.length) (hl : l.length ≤ xs.length) :
    ∃ g ad cur, Ao = some ⟨g, 0, none⟩ ∧ A0 = some ad ∧ W.heap[g]? = some (.cells cur 2 (0, 0)) ∧ base ≤ g ∧ (∀ j v, (l.map (Value.int .i64))[j]? = some v → W.cell? (ad.add j) = some v) ∧ 0 + (l.map (Value.int .i64)).length ≤ cur.size ∧
      Kd.R (Kd.int .i64) 2 (W.setRow g (cur.toList.take 0 ++ (l.map (Value.int .i64) ++ cur.toList.drop (0 + (l.map (Value.int .i64)).length))).toArray) base (fun _ => True) (.slice Ao xs.length co) (l ++ xs.drop l.length) := by
  obtain ⟨h0, h | ⟨g, cap, cur, hv, hb, hg, hn, hm, hs, ht⟩⟩ := Kd.own_of_R ho
  · omega
  · injection hv with hv1 hv2 hv3
    subst hv1
    subst hv3
    obtain ⟨ad, ha, _⟩ := Kd.at_int hr 0 (by omega) (by omega)
    have hcs : co ≤ cur.toList.length := by simp; omega
    refine ⟨g, ad, cur, rfl, ha, hg, hb, fun j v hj => ?_, by simp; omega, ?_⟩
    · have hjl : j < l.length := by
        have := (List.getElem?_eq_some_iff.1 hj).1
        simpa using this
      obtain ⟨ad', ha', hc⟩ := Kd.at_int hr j (by omega) (by omega)
      rw [ha] at ha'
      cases ha'
      rw [Int.toNat_natCast] at hc
      rw [hc]
      simp only [List.getElem?_map, List.getElem?_eq_getElem hjl, Option.map_some] at hj
      rw [← hj]
      simp [rd, List.getD_eq_getElem?_getD, List.getElem?_eq_getElem hjl]
    · have hlen : (l ++ xs.drop l.length).length = xs.length := by simp; omega
      refine Kd.R_of_own (enc := Value.int .i64) (h1 := fun _ => rfl) ?_ (fun _ _ => trivial)
      rw [hlen]
      refine ⟨by simp [encs]; omega, .inr ⟨g, co, _, rfl, hb, setRow_heap W g _ _ _ _ hg, hn, hm, ?_, ?_⟩⟩
      · simp; omega
      · simp only [List.take_zero, List.nil_append, Nat.zero_add, Nat.mul_one, List.length_map]
        have ht' : cur.toList.take xs.length = xs.map (Value.int .i64) := by simpa [encs] using ht
        have e : (l.map (Value.int .i64) ++ cur.toList.drop l.length).take xs.length = l.map (Value.int .i64) ++ (cur.toList.take xs.length).drop l.length := by
          rw [List.take_append, List.take_of_length_le (by simp; omega), List.length_map, List.drop_take]
        rw [e, ht']
        simp [encs]
def impl_ConeOf.l0 : Nat → Int → Int → Int → List Int → Option (Int × List Int × Int)
  | 0, _, _, _, _ => none
  | k + 1, n, v, o, x => if v < n then ((impl_Graph_put.f o x v n).bind fun y => (impl_ConeOf.l0 k n (wrap64 (v + 1)) o y)) else some (o, x, 0)
def impl_ConeOf.f (k : Nat) (a0_0 : Int) (l0_1 : List Int) : Option (Int × List Int × Int) := (impl_IsGraph.f k a0_0 l0_1).bind fun t => (if t = true then ((impl_limitedCode.f (wrap64 (a0_0 + 1))).bind fun cd => (if cd = 0 then ((impl_empty.f (wrap64 (a0_0 + 1))).bind fun e => (if 0 < l0_1.length ∧ l0_1.length ≤ e.2.length then (impl_ConeOf.l0 k a0_0 0 e.1 (l0_1 ++ e.2.drop l0_1.length)) else none)) else (some (0, ([] : List Int), cd)))) else (some (0, ([] : List Int), 1)))
set_option maxHeartbeats 8000000 in
set_option maxRecDepth 100000 in
theorem impl_ConeOf.calls (k : Nat) (a0_0 : Int) (A0_1 : Option Addr) (c0_1 : Nat) (l0_1 : List Int) (r1 : Int) (r2 : List Int) (r3 : Int) (w : World) (hr0_1 : Kd.C (Kd.int .i64) w A0_1 l0_1.length l0_1) (hc0_1 : l0_1.length ≤ c0_1) (h : impl_ConeOf.f k a0_0 l0_1 = some (r1, r2, r3)) :
    Calls Try.prog 28 #[.agg #[.int .i64 a0_0, .slice A0_1 l0_1.length c0_1]] w fun e w' => ∃ v1_ : Value, e = .returned (.tuple #[.agg #[.int .i64 r1, v1_], .int .i64 r3]) ∧ Kd.R (Kd.int .i64) 2 w' w.heap.size (fun _ => True) v1_ r2 ∧ Below w.heap.size w w' := by
  have hu := Try.underlying41
  have hus := Try.underlying22
  have hsz : (Try.prog.info? 2).map (·.size) = some 1 := by kernel_rfl
  have HSZ := Aside0.mk hsz
  clear hsz
  unfold impl_ConeOf.f at h
  obtain ⟨t, A1, h⟩ := Option.bind_eq_some_iff.mp h
  have HR := Aside0.mk hr0_1
  have HC := Aside0.mk hc0_1
  clear hr0_1 hc0_1
  have H := Aside0.mk h
  clear h
  have HA1 := Aside0.mk A1
  clear A1
  have HB := Aside0.mk (((Below.refl w.heap.size w).alloc (Nat.le_refl _) (.cells #[.int .i64 a0_0, .slice A0_1 l0_1.length c0_1] 41)).alloc (by simp) (.cells #[.int .i64 0, .slice none 0 0] 41))
  go_enter Try.func28, Try.ntmps28
  go_wp2_with fail
  refine (impl_IsGraph.calls k a0_0 A0_1 c0_1 l0_1 t _ (Kd.C_below HR.out HB.out) HC.out HA1.out).mono ?_
  rintro e w2 ⟨rfl, hb2⟩
  have BKx := Aside0.mk (blk_below (g := w.heap.size) (o := .cells #[.int .i64 a0_0, .slice A0_1 l0_1.length c0_1] 41 (0, 0)) (blk_alloc (blk_new w _) (.cells #[.int .i64 0, .slice none 0 0] 41)) hb2)
  have BKr := Aside0.mk (blk_below (g := w.heap.size + 1) (o := .cells #[.int .i64 0, .slice none 0 0] 41 (0, 0)) (by have := blk_new (w.alloc (.cells #[.int .i64 a0_0, .slice A0_1 l0_1.length c0_1] 41)) (.cells #[.int .i64 0, .slice none 0 0] 41); simpa using this) hb2)
  have HBB := Aside0.mk (below_then HB.out (by simp; omega) hb2)
  clear HB hb2
  have hcz0 : w2.cell? ⟨w.heap.size + 1, 0, none⟩ = some (.int .i64 0) := (blk_cell BKr.out 0).trans rfl
  have hcz1 : w2.cell? ⟨w.heap.size + 1, 1, none⟩ = some (.slice none 0 0) := (blk_cell BKr.out 1).trans rfl
  have hfz0 := blk_frozen BKr.out 0
  have hfz1 := blk_frozen BKr.out 1
  have hcx0 : w2.cell? ⟨w.heap.size, 0, none⟩ = some (.int .i64 a0_0) := (blk_cell BKx.out 0).trans rfl
  have hcx1 : w2.cell? ⟨w.heap.size, 1, none⟩ = some (.slice A0_1 l0_1.length c0_1) := (blk_cell BKx.out 1).trans rfl
  cases t with
  | false =>
    have h := H.out
    rw [if_neg (by decide)] at h
    simp only [Option.some.injEq, Prod.mk.injEq] at h
    obtain ⟨rfl, rfl, rfl⟩ := h
    go_wp2
    refine bodyPost_ret (results_ct rfl _ _ (w.heap.size + 1) 41 #[.int .i64 0, .slice none 0 0] (0, 0) _ rfl (by refine blk_put (cs := #[.int .i64 0, .slice none 0 0]) ?_ 1 _ rfl; refine blk_put (cs := #[.int .i64 0, .slice none 0 0]) ?_ 0 _ rfl; exact BKr.out) Try.underlying41 rfl (by kernel_rfl)) rfl ?_
    exact ⟨_, by first | rfl | (simp [errW_none, errW_some] <;> rfl) | (simp [*, errW_none, errW_some] <;> rfl), Kd.R_nil _ _ _ _ _, below_set (below_set HBB.out (Nat.le_succ _)) (Nat.le_succ _)⟩
  | true =>
    have h := H.out
    rw [if_pos rfl] at h
    obtain ⟨cd, A3, h⟩ := Option.bind_eq_some_iff.mp h
    have HA3 := Aside0.mk A3
    clear A3
    have H2 := Aside0.mk h
    clear h H
    go_wp2_with fail
    refine (impl_limitedCode.calls (wrap64 (a0_0 + 1)) cd _ HA3.out).mono ?_
    rintro e w3 ⟨rfl, hd3⟩
    have hb3 := hd3.below
    clear hd3
    have BKy := Aside0.mk (blk_below BKx.out hb3)
    have BKs := Aside0.mk (blk_below BKr.out hb3)
    have HB3 := Aside0.mk (below_then HBB.out (below_size HBB.out) hb3)
    clear hb3 hcz0 hcz1 hfz0 hfz1 hcx0 hcx1 BKx BKr HBB
    have hcz0 : w3.cell? ⟨w.heap.size + 1, 0, none⟩ = some (.int .i64 0) := (blk_cell BKs.out 0).trans rfl
    have hcz1 : w3.cell? ⟨w.heap.size + 1, 1, none⟩ = some (.slice none 0 0) := (blk_cell BKs.out 1).trans rfl
    have hfz0 := blk_frozen BKs.out 0
    have hfz1 := blk_frozen BKs.out 1
    have hcx0 : w3.cell? ⟨w.heap.size, 0, none⟩ = some (.int .i64 a0_0) := (blk_cell BKy.out 0).trans rfl
    by_cases c1 : cd = 0
    case neg =>
      have h := H2.out
      rw [if_neg c1] at h
      simp only [Option.some.injEq, Prod.mk.injEq] at h
      obtain ⟨rfl, rfl, rfl⟩ := h
      have d1 : (cd != 0) = true := bne_iff_ne.mpr c1
      clear c1
      go_wp2
      refine bodyPost_ret (results_ct rfl _ _ (w.heap.size + 1) 41 #[.int .i64 0, .slice none 0 0] (0, 0) _ rfl (by refine blk_put (cs := #[.int .i64 0, .slice none 0 0]) ?_ 1 _ rfl; refine blk_put (cs := #[.int .i64 0, .slice none 0 0]) ?_ 0 _ rfl; exact BKs.out) Try.underlying41 rfl (by kernel_rfl)) rfl ?_
      exact ⟨_, by first | rfl | (simp [errW_none, errW_some] <;> rfl) | (simp [*, errW_none, errW_some] <;> rfl), Kd.R_nil _ _ _ _ _, below_set (below_set HB3.out (Nat.le_succ _)) (Nat.le_succ _)⟩
    case pos =>
    have h := H2.out
    rw [if_pos c1] at h
    have d1 : (cd != 0) = false := bne_eq_false_iff_eq.mpr c1
    clear c1 H2
    obtain ⟨⟨e1, e2⟩, A4, h⟩ := Option.bind_eq_some_iff.mp h
    have HA4 := Aside0.mk A4
    clear A4
    dsimp only at h
    by_cases c2 : 0 < l0_1.length ∧ l0_1.length ≤ e2.length
    case neg => rw [if_neg c2] at h; cases h
    case pos =>
    rw [if_pos c2] at h
    have H' := Aside0.mk h
    have HC2 := Aside0.mk c2
    clear h c2
    go_wp2_with fail
    refine (impl_empty.calls (wrap64 (a0_0 + 1)) e1 e2 _ HA4.out).mono ?_
    rintro e w4 ⟨v0, rfl, hR, hb4⟩
    obtain ⟨Ao, co, rfl⟩ := Kd.R_slice hR
    have BKx := Aside0.mk (blk_alloc (blk_below BKy.out hb4) (.cells #[.int .i64 e1, .slice Ao e2.length co] 41))
    have BKr := Aside0.mk (blk_alloc (blk_below BKs.out hb4) (.cells #[.int .i64 e1, .slice Ao e2.length co] 41))
    have BKo := Aside0.mk (blk_new w4 (.cells #[.int .i64 e1, .slice Ao e2.length co] 41))
    have HB4 := Aside0.mk (below_alloc (below_then HB3.out (below_size HB3.out) hb4) (.cells #[.int .i64 e1, .slice Ao e2.length co] 41))
    have HO := Aside0.mk (Kd.R_alloc (Kd.R_lower hR (below_size HB3.out)) (.cells #[.int .i64 e1, .slice Ao e2.length co] 41))
    have hlt := blk_lt (blk_below BKs.out hb4)
    clear hb4 hcz0 hcz1 hfz0 hfz1 hcx0 BKy BKs HB3 hR
    obtain ⟨g, ad, cur, rfl, rfl, hg, hbg, hsrc, hfit, hR2⟩ := impl_ConeOf.copied (Kd.C_below HR.out HB4.out) HO.out HC2.out.1 HC2.out.2
    have hn1 : w.heap.size ≠ g := fun e_ => by have h1 := BKx.out; rw [e_, hg] at h1; exact absurd (show 2 = 41 by injection h1 with h1; injection h1) (by decide)
    have hn2 : w.heap.size + 1 ≠ g := fun e_ => by have h1 := BKr.out; rw [e_, hg] at h1; exact absurd (show 2 = 41 by injection h1 with h1; injection h1) (by decide)
    have hn3 : w4.heap.size ≠ g := fun e_ => by have h1 := BKo.out; rw [e_, hg] at h1; exact absurd (show 2 = 41 by injection h1 with h1; injection h1) (by decide)
    have hcx0 : (w4.alloc (.cells #[.int .i64 e1, .slice (some ⟨g, 0, none⟩) e2.length co] 41)).cell? ⟨w.heap.size, 0, none⟩ = some (.int .i64 a0_0) := (blk_cell BKx.out 0).trans rfl
    have hcx1 : (w4.alloc (.cells #[.int .i64 e1, .slice (some ⟨g, 0, none⟩) e2.length co] 41)).cell? ⟨w.heap.size, 1, none⟩ = some (.slice (some ad) l0_1.length c0_1) := (blk_cell BKx.out 1).trans rfl
    have hco1 : (w4.alloc (.cells #[.int .i64 e1, .slice (some ⟨g, 0, none⟩) e2.length co] 41)).cell? ⟨w4.heap.size, 1, none⟩ = some (.slice (some ⟨g, 0, none⟩) e2.length co) := (blk_cell BKo.out 1).trans rfl
    have HG := Aside0.mk hg
    have HS := Aside0.mk hsrc
    have HF := Aside0.mk hfit
    have HR2 := Aside0.mk hR2
    have HBG := Aside0.mk hbg
    have HN1 := Aside0.mk hn1
    have HN2 := Aside0.mk hn2
    have HN3 := Aside0.mk hn3
    clear hg hsrc hfit hR2 hbg hn1 hn2 hn3
    obtain ⟨x0, hx0⟩ : ∃ x0, l0_1 ++ e2.drop l0_1.length = x0 := ⟨_, rfl⟩
    replace HR2 := HR2.out
    rw [hx0] at HR2 H'
    replace HR2 := Aside0.mk HR2
    go_wp2_with (refine wpList_copy_own rfl (.tmp 24) (.tmp 26) 22 22 rfl 2 hus HSZ.out g 0 e2.length co ad l0_1.length c0_1 rfl rfl cur 2 HG.out (l0_1.map (Value.int .i64)) (by rw [List.length_map]; exact (Nat.min_eq_left HC2.out.2).symm) HS.out HF.out (fun u hu => by obtain ⟨z, _, rfl⟩ := List.mem_map.1 hu; rfl) ?_; have BKx2 := Aside0.mk ((setRow_other _ g w.heap.size (cur.toList.take 0 ++ ((l0_1.map (Value.int .i64)) ++ cur.toList.drop (0 + (l0_1.map (Value.int .i64)).length))).toArray HN1.out).trans BKx.out); have BKr2 := Aside0.mk ((setRow_other _ g (w.heap.size + 1) (cur.toList.take 0 ++ ((l0_1.map (Value.int .i64)) ++ cur.toList.drop (0 + (l0_1.map (Value.int .i64)).length))).toArray HN2.out).trans BKr.out); have BKo2 := Aside0.mk ((setRow_other _ g w4.heap.size (cur.toList.take 0 ++ ((l0_1.map (Value.int .i64)) ++ cur.toList.drop (0 + (l0_1.map (Value.int .i64)).length))).toArray HN3.out).trans BKo.out); have HB5 := Aside0.mk (below_setRow HB4.out HBG.out (cur.toList.take 0 ++ ((l0_1.map (Value.int .i64)) ++ cur.toList.drop (0 + (l0_1.map (Value.int .i64)).length))).toArray); clear BKx BKr BKo HB4 HO HG HS HF HBG HN1 HN2 HN3 hcx0 hcx1 hco1; generalize World.setRow _ g _ = w5 at HR2 BKx2 BKr2 BKo2 HB5 ⊢; have hcx0 : w5.cell? ⟨w.heap.size, 0, none⟩ = some (.int .i64 a0_0) := (blk_cell BKx2.out 0).trans rfl)
    try go_wp2
    go_loopg [30] k (fun kq v30 w' => ∃ (x30_1 : Int) (x_1 : List Int), v30 = .int .i64 x30_1 ∧ Aside0 (impl_ConeOf.l0 kq a0_0 x30_1 e1 x_1 = some (r1, r2, r3)) ∧ Aside0 (kq ≤ k) ∧ Aside0 (Kd.R (Kd.int .i64) 2 w' w.heap.size (fun _ => True) (.slice (some ⟨g, 0, none⟩) e2.length co) x_1) ∧ Aside0 (w'.heap[w.heap.size]? = some (.cells #[.int .i64 a0_0, .slice (some ad) l0_1.length c0_1] 41 (0, 0))) ∧ Aside0 (w'.heap[w.heap.size + 1]? = some (.cells #[.int .i64 0, .slice none 0 0] 41 (0, 0))) ∧ Aside0 (w'.heap[w4.heap.size]? = some (.cells #[.int .i64 e1, .slice (some ⟨g, 0, none⟩) e2.length co] 41 (0, 0))) ∧ Aside0 (Below w.heap.size w w'))
    case atStart => exact ⟨0, x0, (by first | rfl | (simp; done) | (simp [*]; done)), H', ⟨Nat.le_refl _⟩, HR2, BKx2, BKr2, BKo2, HB5⟩
    case round =>
      clear H' HR2 BKx2 BKr2 BKo2 HB5 hcx0
      obtain ⟨x30_1, x_1, rfl, HA, HK1, HO, BKx, BKr, BKo, HB⟩ := hrel
      have hcx0 : wr.cell? ⟨w.heap.size, 0, none⟩ = some (.int .i64 a0_0) := (blk_cell BKx.out 0).trans rfl
      have hco0 : wr.cell? ⟨w4.heap.size, 0, none⟩ = some (.int .i64 e1) := (blk_cell BKo.out 0).trans rfl
      have hco1 : wr.cell? ⟨w4.heap.size, 1, none⟩ = some (.slice (some ⟨g, 0, none⟩) e2.length co) := (blk_cell BKo.out 1).trans rfl
      have hcz0 : wr.cell? ⟨w.heap.size + 1, 0, none⟩ = some (.int .i64 0) := (blk_cell BKr.out 0).trans rfl
      have hcz1 : wr.cell? ⟨w.heap.size + 1, 1, none⟩ = some (.slice none 0 0) := (blk_cell BKr.out 1).trans rfl
      have hfz0 := blk_frozen BKr.out 0
      have hfz1 := blk_frozen BKr.out 1
      cases gk with
      | zero => exact absurd HA.out (by simp [impl_ConeOf.l0])
      | succ k1 =>
        have H := HA.out
        clear HA
        simp only [impl_ConeOf.l0] at H
        by_cases c3 : x30_1 < a0_0
        · rw [if_pos c3] at H
          have c3b0 : decide (x30_1 < a0_0) = true := decide_eq_true c3
          clear c3
          obtain ⟨y, A5, H⟩ := Option.bind_eq_some_iff.mp H
          have HA5 := Aside0.mk A5
          have H' := Aside0.mk H
          clear A5 H
          go_wp2_with fail
          refine (impl_Graph_put.calls e1 (fun k_ => some k_ = (Value.slice (some ⟨g, 0, none⟩) e2.length co).ownBlock) _ x_1 x30_1 a0_0 y w _ HB.out (Kd.R_tight rfl HO.out) HA5.out).mono ?_
          rintro e w6 ⟨rfl, hR6, hB6, hK6⟩
          have hg6 : (Value.slice (some ⟨g, 0, none⟩) e2.length co).ownBlock = some g := rfl
          have BKx2 := Aside0.mk (blk_kept BKx.out hK6 (fun e_ => (Kd.R_ne HO.out BKx.out (by decide)) e_))
          have BKr2 := Aside0.mk (blk_kept BKr.out hK6 (fun e_ => (Kd.R_ne HO.out BKr.out (by decide)) e_))
          have BKo2 := Aside0.mk (blk_kept BKo.out hK6 (fun e_ => (Kd.R_ne HO.out BKo.out (by decide)) e_))
          have HO2 := Aside0.mk (Kd.R_mono (ok' := fun _ => True) hR6 (fun _ _ => trivial))
          have HB2 := Aside0.mk hB6
          clear hR6 hB6 hK6 hg6 HO BKx BKr BKo HB hcx0 hco0 hco1 hcz0 hcz1 hfz0 hfz1
          go_wp2
          go_roundg k1
          case measure => have := HK1.out; omega
          case rel => exact ⟨(wrap64 (x30_1 + 1)), y, (by first | rfl | (simp; done) | (simp [*]; done)), H', ⟨by have := HK1.out; omega⟩, HO2, BKx2, BKr2, BKo2, HB2⟩
        · rw [if_neg c3] at H
          have c3b0 : decide (x30_1 < a0_0) = false := decide_eq_false c3
          clear c3
          obtain ⟨rfl, rfl, rfl⟩ : e1 = r1 ∧ x_1 = r2 ∧ 0 = r3 := by simpa using H
          clear H
          go_wp2
          refine bodyPost_ret (results_ct rfl _ _ (w.heap.size + 1) 41 #[.int .i64 e1, .slice (some ⟨g, 0, none⟩) e2.length co] (0, 0) _ rfl (by refine blk_put (cs := #[.int .i64 e1, .slice none 0 0]) ?_ 1 _ rfl; refine blk_put (cs := #[.int .i64 0, .slice none 0 0]) ?_ 0 _ rfl; exact BKr.out) Try.underlying41 rfl (by kernel_rfl)) rfl ?_
          exact ⟨_, by first | rfl | (simp [errW_none, errW_some] <;> rfl) | (simp [*, errW_none, errW_some] <;> rfl), Kd.R_mono (Kd.R_far (p := ⟨w.heap.size + 1, 1, none⟩) (Kd.R_far (p := ⟨w.heap.size + 1, 0, none⟩) (Kd.R_types HO.out BKr.out (by decide)) (fun _ hk => hk.2) (.int .i64 e1)) (fun _ hk => hk.2) (.slice (some ⟨g, 0, none⟩) e2.length co)) (fun _ _ => trivial), below_set (below_set HB.out (Nat.le_succ _)) (Nat.le_succ _)⟩

end Go.Proofs.Ytcffgfomicpbfaa.P
