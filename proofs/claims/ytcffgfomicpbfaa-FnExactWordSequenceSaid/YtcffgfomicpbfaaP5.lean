-- Printed by a program of this workplace (wip/xp/xp.py) over the kit's print.
import Derived.Test.YtcffgfomicpbfaaP0
import Derived.Test.YtcffgfomicpbfaaP4
namespace Go.Proofs.Ytcffgfomicpbfaa.P
open Go.RowKit Go.Proofs.YtcffgfomicpbfaaW.PrintWords Go.Proofs.YtcffgfomicpbfaaW.PrintLast Go.Proofs.YtcffgfomicpbfaaW.PrintMore
attribute [local go_sem] max2_int min2_int max_two min_two max_three min_three max_four min_four   -- for this text's walks alone
set_option linter.unusedVariables false
set_option linter.unusedSimpArgs false

/-! ### impl_WordSequence: function 11 -/
/-- What holds of the memory while the search goes on: the bound, the count of letters, the search itself, the list that grows, the word. -/
def impl_WordSequence.St (d K : Int) (bk bo bw bs bd bx cx : Nat) (w0 W : World) (out wd : List Int) : Prop :=
  W.heap[bk]? = some (.cells #[.int .i64 K] 2 (0, 0)) ∧ W.heap[bd]? = some (.cells #[.int .i64 d] 2 (0, 0)) ∧
  W.heap[bs]? = some (.cells #[.func (.func 43) #[] #[.pointer (some ⟨bk, 0, none⟩), .pointer (some ⟨bo, 0, none⟩), .pointer (some ⟨bw, 0, none⟩), .pointer (some ⟨bs, 0, none⟩), .pointer (some ⟨bd, 0, none⟩)]] 58 (0, 0)) ∧
  (∃ vo, W.heap[bo]? = some (.cells #[vo] 22 (0, 0)) ∧ Kd.R (Kd.int .i64) 2 W w0.heap.size (fun k_ => k_ ≠ bk ∧ k_ ≠ bd ∧ k_ ≠ bx) vo out) ∧
  W.heap[bw]? = some (.cells #[.slice (some ⟨bx, 0, none⟩) wd.length cx] 22 (0, 0)) ∧ Kd.R (Kd.int .i64) 2 W w0.heap.size (fun k_ => k_ ≠ bk ∧ k_ ≠ bd) (.slice (some ⟨bx, 0, none⟩) wd.length cx) wd ∧ Below w0.heap.size w0 W
section
variable {d K : Int} {bk bo bw bs bd bx cx : Nat} {w0 W : World} {out wd : List Int}
theorem impl_WordSequence.St.below {W' : World} (h : impl_WordSequence.St d K bk bo bw bs bd bx cx w0 W out wd) (hb : Below W.heap.size W W') : impl_WordSequence.St d K bk bo bw bs bd bx cx w0 W' out wd := by
  obtain ⟨h1, h2, h3, ⟨vo, h4, h5⟩, h6, h7, h8⟩ := h
  exact ⟨blk_below h1 hb, blk_below h2 hb, blk_below h3 hb, ⟨vo, blk_below h4 hb, Kd.R_below h5 hb⟩, blk_below h6 hb, Kd.R_below h7 hb, below_then h8 (below_size h8) hb⟩
theorem impl_WordSequence.St.x (h : impl_WordSequence.St d K bk bo bw bs bd bx cx w0 W out wd) : bx ≠ bk ∧ bx ≠ bd ∧ bs ≠ bx ∧ bo ≠ bx ∧ bw ≠ bx ∧ w0.heap.size ≤ bx := by
  obtain ⟨h1, h2, h3, ⟨vo, h4, h5⟩, h6, h7, h8⟩ := h
  refine ⟨(h7.1 bx rfl).1, (h7.1 bx rfl).2, ?_, ?_, ?_, Kd.R_base h7 bx rfl⟩
  · intro e; exact Kd.R_ne h7 h3 (by decide) (congrArg some e)
  · intro e; exact Kd.R_ne h7 h4 (by decide) (congrArg some e)
  · intro e; exact Kd.R_ne h7 h6 (by decide) (congrArg some e)
theorem impl_WordSequence.St.put (h : impl_WordSequence.St d K bk bo bw bs bd bx cx w0 W out wd) (i x : Int) (hi : i.toNat < wd.length) : impl_WordSequence.St d K bk bo bw bs bd bx cx w0 (W.setCell ⟨bx, i.toNat, none⟩ (.int .i64 x)) out (wd.set i.toNat x) := by
  obtain ⟨n1, n2, n3, n4, n5, n6⟩ := h.x
  obtain ⟨h1, h2, h3, ⟨vo, h4, h5⟩, h6, h7, h8⟩ := h
  have p := (Kd.R_putg h7 i x).1
  refine ⟨blk_far h1 (Ne.symm n1) _, blk_far h2 (Ne.symm n2) _, blk_far h3 n3 _, ⟨vo, blk_far h4 n4 _, Kd.R_far h5 (fun k hk => hk.2.2) _⟩, ?_, ?_, below_set h8 n6⟩
  · rw [List.length_set]; exact blk_far h6 n5 _
  · rw [List.length_set]; exact p
theorem impl_WordSequence.St.add {W1 : World} {vo v1 : Value} {ys : List Int} (h : impl_WordSequence.St d K bk bo bw bs bd bx cx w0 W out wd) (hvo : W.heap[bo]? = some (.cells #[vo] 22 (0, 0))) (hgo : w0.heap.size ≤ bo) (hne : bo ≠ bw)
    (ho : Kd.R (Kd.int .i64) 2 W1 w0.heap.size (fun k_ => k_ ≠ bk ∧ k_ ≠ bd ∧ k_ ≠ bx) v1 (out ++ ys)) (hb : Below w0.heap.size w0 W1) (hg : W.grownBy W1 vo.ownBlock) :
    impl_WordSequence.St d K bk bo bw bs bd bx cx w0 (W1.setCell ⟨bo, 0, none⟩ v1) (out ++ ys) wd := by
  obtain ⟨n1, n2, n3, n4, n5, n6⟩ := h.x
  obtain ⟨h1, h2, h3, ⟨vo', h4, h5⟩, h6, h7, h8⟩ := h
  obtain rfl : vo' = vo := by
    have := Option.some.inj (h4.symm.trans hvo)
    simpa using this
  have m1 : some bk ≠ vo'.ownBlock := fun e => (h5.1 bk e.symm).1 rfl
  have m2 : some bd ≠ vo'.ownBlock := fun e => (h5.1 bd e.symm).2.1 rfl
  have m3 : some bx ≠ vo'.ownBlock := fun e => (h5.1 bx e.symm).2.2 rfl
  have m4 := Kd.R_ne h5 h4 (by decide)
  have m5 := Kd.R_ne h5 h3 (by decide)
  have m6 := Kd.R_ne h5 h6 (by decide)
  have k1 := blk_grown h1 hg m1
  have k2 := blk_grown h2 hg m2
  have k3 := blk_grown h3 hg m5
  have k4 := blk_grown h4 hg m4
  have k6 := blk_grown h6 hg m6
  have o1 : bk ≠ bo := fun e => by rw [e] at k1; have := Option.some.inj (k1.symm.trans k4); simp at this
  have o2 : bd ≠ bo := fun e => by rw [e] at k2; have := Option.some.inj (k2.symm.trans k4); simp at this
  have o3 : bs ≠ bo := fun e => by rw [e] at k3; have := Option.some.inj (k3.symm.trans k4); simp at this
  have k7 := Kd.R_grown (Kd.R_tight rfl h7) hg (fun k_ hk => by have e : k_ = bx := Option.some.inj hk; rw [e]; exact m3)
  refine ⟨blk_far k1 o1 _, blk_far k2 o2 _, blk_far k3 o3 _, ⟨v1, blk_put k4 0 v1 rfl, ?_⟩, blk_far k6 (Ne.symm hne) _, ?_, below_set hb hgo⟩
  · exact Kd.R_mono (Kd.R_far (Kd.R_types ho k4 (fun q hq => by cases hq with | head => decide | tail _ hq => cases hq)) (fun k_ hk => hk.2) _) (fun k_ hk => hk.1)
  · exact Kd.R_mono (Kd.R_far k7 (fun k_ hk e => by have e' : k_ = bx := Option.some.inj hk; exact n4 (e.symm.trans e')) _) (fun k_ hk => by have e' : k_ = bx := Option.some.inj hk; rw [e']; exact ⟨n1, n2⟩)
end
mutual
def impl_WordSequence.walk : Nat → Int → Int → Int → Int → List Int → List Int → Option (List Int × List Int)
  | 0, _, _, _, _, _, _ => none
  | k + 1, d, K, t, p, out, wd => if t > K then (if p = 0 then none else if Int.tmod K p = 0 then (if 1 ≤ wrap64 (p + 1) then (if wrap64 (p + 1) ≤ (wd.length : Int) then (if out.length + wd.length < 17592186044416 then some (out ++ (wd.take (wrap64 (p + 1)).toNat).drop 1, wd) else none) else none) else none) else some (out, wd)) else (if 0 ≤ wrap64 (t - p) then (if wrap64 (t - p) < (wd.length : Int) then (if 0 ≤ t then (if t < (wd.length : Int) then ((impl_WordSequence.walk k d K (wrap64 (t + 1)) p out (wd.set t.toNat (rd wd (wrap64 (t - p))))).bind fun s => (if wrap64 (t - p) < (s.2.length : Int) then impl_WordSequence.lp k d K t (wrap64 (rd s.2 (wrap64 (t - p)) + 1)) s.1 s.2 else none)) else none) else none) else none) else none)
def impl_WordSequence.lp : Nat → Int → Int → Int → Int → List Int → List Int → Option (List Int × List Int)
  | 0, _, _, _, _, _, _ => none
  | k + 1, d, K, t, x, out, wd => if x < d then (if 0 ≤ t then (if t < (wd.length : Int) then ((impl_WordSequence.walk k d K (wrap64 (t + 1)) t out (wd.set t.toNat x)).bind fun s => impl_WordSequence.lp k d K t (wrap64 (x + 1)) s.1 s.2) else none) else none) else some (out, wd)
end
theorem impl_WordSequence.rng {W : World} {bx cx : Nat} {wd : List Int} (h : Kd.C (Kd.int .i64) W (some ⟨bx, 0, none⟩) wd.length wd) (q : Nat) (h1 : 1 ≤ q) (h2 : q ≤ wd.length) (hc : wd.length ≤ cx) : Kd.C (Kd.int .i64) W (if cx = 1 then some ⟨bx, 0, none⟩ else some ⟨bx, 1, none⟩) (q - 1) ((wd.take q).drop 1) := by
  have a := Kd.C_drop (c := cx) (Kd.C_take h h2) (show 1 ≤ (wd.take q).length by rw [List.length_take]; omega) (by rw [List.length_take]; omega)
  rw [show ((wd.take q).drop 1).length = q - 1 by rw [List.length_drop, List.length_take]; omega] at a
  exact a
theorem impl_WordSequence.st {P : Program} {ops : Array Oper} {Q : Exit → Act → World → Prop} {oi : Oper} {a : Act} {w w1 : World} {K : Act → World → Prop} (hN : oi.dst = none) (hw : Region.wanted oi (yielded ops a.tmps) = true) (hrun : (execOp a.eval oi).run P w = .ok .skip w1) (h : K (a.put none undef) w1) : if Region.wanted oi (yielded ops a.tmps) = true then Oper.wp P oi a w K Q else K (a.put none undef) w := by
  rw [if_pos hw]
  unfold Oper.wp
  rw [hrun]
  show K (a.put oi.dst undef) w1
  rw [hN]
  exact h
set_option maxHeartbeats 4000000 in
set_option maxRecDepth 100000 in
theorem impl_WordSequence.lit (d K : Int) (bk bo bw bs bd bx cx : Nat) (w0 : World) (hgo : w0.heap.size ≤ bo) (hne : bo ≠ bw) (k : Nat) : ∀ j, j ≤ k → ∀ (t p : Int) (out wd out' wd' : List Int) (W : World), impl_WordSequence.St d K bk bo bw bs bd bx cx w0 W out wd → impl_WordSequence.walk j d K t p out wd = some (out', wd') →
    Calls Try.prog 43 #[.int .i64 t, .int .i64 p, .pointer (some ⟨bk, 0, none⟩), .pointer (some ⟨bo, 0, none⟩), .pointer (some ⟨bw, 0, none⟩), .pointer (some ⟨bs, 0, none⟩), .pointer (some ⟨bd, 0, none⟩)] W fun e w' => e = .returned (.tuple #[]) ∧ impl_WordSequence.St d K bk bo bw bs bd bx cx w0 w' out' wd' := by
  induction k with
  | zero => intro j hj t p out wd out' wd' W _ h; (obtain rfl : j = 0 := (by omega)); simp [impl_WordSequence.walk] at h
  | succ k ih =>
    intro j hj t p out wd out' wd' W hS h
    by_cases hjk : j ≤ k
    · exact ih j hjk t p out wd out' wd' W hS h
    obtain rfl : j = k + 1 := by omega
    clear hj hjk
    have HS := Aside0.mk hS
    clear hS
    have hcK : W.cell? ⟨bk, 0, none⟩ = some (.int .i64 K) := (blk_cell HS.out.1 0).trans rfl
    have hcw : W.cell? ⟨bw, 0, none⟩ = some (.slice (some ⟨bx, 0, none⟩) wd.length cx) := (blk_cell HS.out.2.2.2.2.1 0).trans rfl
    simp only [impl_WordSequence.walk] at h
    by_cases c1 : t > K
    · rw [if_pos c1] at h
      have c1b : decide (t > K) = true := decide_eq_true c1
      by_cases c2 : p = 0
      · rw [if_pos c2] at h; cases h
      rw [if_neg c2] at h
      have c2b : (p == 0) = false := beq_eq_false_iff_ne.mpr c2
      by_cases c3 : Int.tmod K p = 0
      · rw [if_pos c3] at h
        have c3b : (Int.tmod K p == 0) = true := beq_iff_eq.mpr c3
        by_cases c4 : 1 ≤ wrap64 (p + 1)
        case neg => rw [if_neg c4] at h; cases h
        rw [if_pos c4] at h
        by_cases c5 : wrap64 (p + 1) ≤ (wd.length : Int)
        case neg => rw [if_neg c5] at h; cases h
        rw [if_pos c5] at h
        by_cases c6 : out.length + wd.length < 17592186044416
        case neg => rw [if_neg c6] at h; cases h
        rw [if_pos c6] at h
        simp only [Option.some.injEq, Prod.mk.injEq] at h
        obtain ⟨rfl, rfl⟩ := h
        obtain ⟨vo, hvo, hro⟩ := HS.out.2.2.2.1
        obtain ⟨Ao, co, rfl⟩ := Kd.R_slice hro
        have hco : W.cell? ⟨bo, 0, none⟩ = some (.slice Ao out.length co) := (blk_cell hvo 0).trans rfl
        generalize hys : (wd.take (wrap64 (p + 1)).toNat).drop 1 = ys
        have hcx := (Kd.R_reads' HS.out.2.2.2.2.2.1).2.1
        have c4b := eq_true c4
        have c5b : (wrap64 (p + 1) ≤ (cx : Int)) = True := eq_true (by omega)
        have LM := Aside0.mk c6
        have HX := Aside0.mk hcx
        clear c6 hcx
        go_enter Try.func43, Try.ntmps43
        go_wp2
        refine start_ (n := 7) (S := fun w' => w'.cell? ⟨bo, 0, none⟩ = some (.slice Ao out.length co) ∧ w'.cell? ⟨bw, 0, none⟩ = some (.slice (some ⟨bx, 0, none⟩) wd.length cx)) (ds := [6]) #[false, false, false, false, false, false, false] (by kernel_rfl) rfl rfl ⟨hco, hcw⟩ (fun hHeld => ?_)
        have HS1 := Aside0.mk (HS.out.below (below_drew (Below.refl W.heap.size W)))
        have hvo1 := blk_drew hvo
        have hro1 := Kd.R_drew hro
        have HR1 := impl_WordSequence.rng (Kd.R_reads' HS1.out.2.2.2.2.2.1).2.2 (wrap64 (p + 1)).toNat (by have := of_eq_true c4b; omega) (by omega) HX.out
        rw [hys] at HR1
        generalize W.drew = W1 at HR1 HS1 hvo1 hro1 hHeld ⊢
        clear HS hvo hro hcK hcw hco
        refine take_ (i := 0) (N := some 17) (v := ?_) (a' := ?_) #[true, false, false, false, false, false, false] rfl rfl (by kernel_rfl) (fun _ _ _ h => h) (Or.inl ⟨by rfl, ?_⟩) hHeld ?_ ?_
        rotate_left
        · rintro w' ⟨s0, s1⟩
          go_simp
          with_reducible rfl
        rotate_left
        · simp only [Act.put, List.setIfInBounds_toArray, List.set_cons_zero, List.set_cons_succ, i64_w, i32_w]
          rfl
        refine take_ (i := 1) (N := some 18) (v := ?_) (a' := ?_) #[true, true, false, false, false, false, false] rfl rfl (by kernel_rfl) (fun _ _ _ h => h) (Or.inl ⟨by rfl, ?_⟩) hHeld ?_ ?_
        rotate_left
        · rintro w' ⟨s0, s1⟩
          go_simp
          with_reducible rfl
        rotate_left
        · simp only [Act.put, List.setIfInBounds_toArray, List.set_cons_zero, List.set_cons_succ, i64_w, i32_w]
          rfl
        refine pure_ (i := 2) (N := some 19) (v := ?_) (a' := ?_) #[true, true, true, false, false, false, false] rfl rfl (by kernel_rfl) (fun _ _ _ h => h) (Or.inl ⟨by rfl, ?_⟩) ?_ ?_
        rotate_left
        · intro w'
          go_simp
          with_reducible rfl
        rotate_left
        · simp only [Act.put, List.setIfInBounds_toArray, List.set_cons_zero, List.set_cons_succ, i64_w, i32_w]
          rfl
        refine pure_ (i := 3) (N := some 20) (v := ?_) (a' := ?_) #[true, true, true, true, false, false, false] rfl rfl (by kernel_rfl) (fun _ _ _ h => h) (Or.inl ⟨by rfl, ?_⟩) ?_ ?_
        rotate_left
        · intro w'
          go_simp
          with_reducible rfl
        rotate_left
        · simp only [Act.put, List.setIfInBounds_toArray, List.set_cons_zero, List.set_cons_succ, i64_w, i32_w]
          rfl
        refine pure_ (i := 4) (N := some 21) (v := ?_) (a' := ?_) #[true, true, true, true, true, false, false] rfl rfl (by kernel_rfl) (fun _ _ _ h => h) (Or.inl ⟨by rfl, ?_⟩) ?_ ?_
        rotate_left
        · intro w'
          go_simp
          with_reducible rfl
        rotate_left
        · simp only [Act.put, List.setIfInBounds_toArray, List.set_cons_zero, List.set_cons_succ, i64_w, i32_w]
          rfl
        refine one_ (i := 5) (N := some 22) #[true, true, true, true, true, true, false] rfl rfl (by kernel_rfl) (by decide) (fun K hK => ?_)
        refine Kd.R_append_rows_step (Kd.int .i64) (w0 := w0) w0.heap.size (by rfl) (.tmp 17) (.tmp 21) 22 2 (.int .i64 0) 8 rfl Try.underlying22 info2 rfl (by decide) (by omega) (.slice Ao out.length co) out ys _ _ _ (fun k_ => k_ ≠ bk ∧ k_ ≠ bd ∧ k_ ≠ bx) (fun _ => False) rfl rfl hro1 HR1 (fun _ _ h => h) (fun _ h => h.elim) ?aF HS1.out.2.2.2.2.2.2 (below_size HS1.out.2.2.2.2.2.2) ?aL ?_
        case aF => intro k_ hk; have l1 := blk_lt HS1.out.1; have l2 := blk_lt HS1.out.2.1; have l3 := Kd.R_lt HS1.out.2.2.2.2.2.1 bx rfl; exact ⟨by omega, by omega, by omega⟩
        case aL => have := LM.out; omega
        intro v1 w1 ho hb hg hat
        obtain ⟨A1, cv, rfl⟩ := Kd.R_slice ho
        have hgo2 := blk_grown hvo1 hg (Kd.R_ne hro1 hvo1 (by decide))
        have hgw2 := blk_grown HS1.out.2.2.2.2.1 hg (Kd.R_ne hro1 HS1.out.2.2.2.2.1 (by decide))
        refine hK.out _ _ ⟨(blk_cell hgo2 0).trans rfl, (blk_cell hgw2 0).trans rfl⟩ (fun hHeld => ?_)
        clear hK K
        refine norm_ (a' := ?_) ?_ ?_
        rotate_left
        · show Act.put _ (some 22) _ = _
          simp only [Act.put, List.setIfInBounds_toArray, List.set_cons_zero, List.set_cons_succ, i64_w, i32_w]
          rfl
        refine last_ (i := 6) (N := none) #[true, true, true, true, true, true, true] rfl rfl (by kernel_rfl) (by decide) (fun K hK => ?_)
        have HN := Aside0.mk (HS1.out.add hvo1 hgo hne ho hb hg)
        have hcg := (blk_cell hgo2 0).trans rfl
        have hfg := blk_frozen hgo2 0
        refine impl_WordSequence.st (w1 := w1.setCell ⟨bo, 0, none⟩ (.slice A1 (out ++ ys).length cv)) rfl (by rfl) (by first | (go_simp; done) | (go_simp; rfl)) ?_
        refine hK.out _ _ ?_
        clear hK K
        refine done_ (by kernel_rfl) ?_
        generalize w1.setCell ⟨bo, 0, none⟩ (.slice A1 (out ++ ys).length cv) = w2 at HN ⊢
        generalize (if cx = 1 then (some ⟨bx, 0, none⟩ : Option Addr) else some ⟨bx, 1, none⟩) = adr
        go_wp2
        (try simp only [Exit.inBlock, Exit.then]); refine bodyPost_ret (results_none rfl _ _ _) rfl ?_
        exact ⟨rfl, HN.out⟩
      · rw [if_neg c3] at h
        have c3b : (Int.tmod K p == 0) = false := beq_eq_false_iff_ne.mpr c3
        simp only [Option.some.injEq, Prod.mk.injEq] at h
        obtain ⟨rfl, rfl⟩ := h
        go_enter Try.func43, Try.ntmps43
        go_wp2
        (try simp only [Exit.inBlock, Exit.then]); refine bodyPost_ret (results_none rfl _ _ _) rfl ?_
        exact ⟨rfl, HS.out⟩
    · rw [if_neg c1] at h
      have c1b : decide (t > K) = false := decide_eq_false c1
      by_cases c2 : 0 ≤ wrap64 (t - p)
      case neg => rw [if_neg c2] at h; cases h
      rw [if_pos c2] at h
      by_cases c3 : wrap64 (t - p) < (wd.length : Int)
      case neg => rw [if_neg c3] at h; cases h
      rw [if_pos c3] at h
      by_cases c4 : 0 ≤ t
      case neg => rw [if_neg c4] at h; cases h
      rw [if_pos c4] at h
      by_cases c5 : t < (wd.length : Int)
      case neg => rw [if_neg c5] at h; cases h
      rw [if_pos c5] at h
      obtain ⟨⟨o1, d1⟩, A1, h⟩ := Option.bind_eq_some_iff.mp h
      dsimp only at h
      by_cases c6 : wrap64 (t - p) < (d1.length : Int)
      case neg => rw [if_neg c6] at h; cases h
      rw [if_pos c6] at h
      have HA1 := Aside0.mk A1
      have H := Aside0.mk h
      clear h A1
      have hcr : W.cell? ⟨bx, (wrap64 (t - p)).toNat, none⟩ = some (.int .i64 (rd wd (wrap64 (t - p)))) := (Kd.R_celln 0 HS.out.2.2.2.2.2.1 (wrap64 (t - p)) c2 c3).1
      have q2 := eq_true c2
      have q3 := eq_true c3
      have q4 := eq_true c4
      have q5 := eq_true c5
      go_enter Try.func43, Try.ntmps43
      go_wp2
      refine start_ (n := 10) (S := fun w' => w'.cell? ⟨bw, 0, none⟩ = some (.slice (some ⟨bx, 0, none⟩) wd.length cx) ∧ w'.cell? ⟨bx, (wrap64 (t - p)).toNat, none⟩ = some (.int .i64 (rd wd (wrap64 (t - p))))) (ds := [9]) #[false, false, false, false, false, false, false, false, false, false] (by kernel_rfl) rfl rfl ⟨hcw, hcr⟩ (fun hHeld => ?_)
      have HS1 := Aside0.mk (HS.out.below (below_drew (Below.refl W.heap.size W)))
      generalize W.drew = W1 at HS1 hHeld ⊢
      clear HS hcK hcw hcr
      refine take_ (i := 0) (N := some 23) (v := ?_) (a' := ?_) #[true, false, false, false, false, false, false, false, false, false] rfl rfl (by kernel_rfl) (fun _ _ _ h => h) (Or.inl ⟨by rfl, ?_⟩) hHeld ?_ ?_
      rotate_left
      · rintro w' ⟨s0, s1⟩
        go_simp
        with_reducible rfl
      rotate_left
      · simp only [Act.put, List.setIfInBounds_toArray, List.set_cons_zero, List.set_cons_succ, i64_w, i32_w]
        rfl
      refine pure_ (i := 1) (N := some 24) (v := ?_) (a' := ?_) #[true, true, false, false, false, false, false, false, false, false] rfl rfl (by kernel_rfl) (fun _ _ _ h => h) (Or.inl ⟨by rfl, ?_⟩) ?_ ?_
      rotate_left
      · intro w'
        go_simp
        with_reducible rfl
      rotate_left
      · simp only [Act.put, List.setIfInBounds_toArray, List.set_cons_zero, List.set_cons_succ, i64_w, i32_w]
        rfl
      refine take_ (i := 2) (N := some 25) (v := ?_) (a' := ?_) #[true, true, true, false, false, false, false, false, false, false] rfl rfl (by kernel_rfl) (fun _ _ _ h => h) (Or.inl ⟨by rfl, ?_⟩) hHeld ?_ ?_
      rotate_left
      · rintro w' ⟨s0, s1⟩
        go_simp
        with_reducible rfl
      rotate_left
      · simp only [Act.put, List.setIfInBounds_toArray, List.set_cons_zero, List.set_cons_succ, i64_w, i32_w]
        rfl
      refine pure_ (i := 3) (N := some 26) (v := ?_) (a' := ?_) #[true, true, true, true, false, false, false, false, false, false] rfl rfl (by kernel_rfl) (fun _ _ _ h => h) (Or.inl ⟨by rfl, ?_⟩) ?_ ?_
      rotate_left
      · intro w'
        go_simp
        with_reducible rfl
      rotate_left
      · simp only [Act.put, List.setIfInBounds_toArray, List.set_cons_zero, List.set_cons_succ, i64_w, i32_w]
        rfl
      refine pure_ (i := 4) (N := some 27) (v := ?_) (a' := ?_) #[true, true, true, true, true, false, false, false, false, false] rfl rfl (by kernel_rfl) (fun _ _ _ h => h) (Or.inl ⟨by rfl, ?_⟩) ?_ ?_
      rotate_left
      · intro w'
        go_simp
        with_reducible rfl
      rotate_left
      · simp only [Act.put, List.setIfInBounds_toArray, List.set_cons_zero, List.set_cons_succ, i64_w, i32_w]
        rfl
      refine pure_ (i := 5) (N := some 28) (v := ?_) (a' := ?_) #[true, true, true, true, true, true, false, false, false, false] rfl rfl (by kernel_rfl) (fun _ _ _ h => h) (Or.inl ⟨by rfl, ?_⟩) ?_ ?_
      rotate_left
      · intro w'
        go_simp
        with_reducible rfl
      rotate_left
      · simp only [Act.put, List.setIfInBounds_toArray, List.set_cons_zero, List.set_cons_succ, i64_w, i32_w]
        rfl
      refine pure_ (i := 6) (N := some 29) (v := ?_) (a' := ?_) #[true, true, true, true, true, true, true, false, false, false] rfl rfl (by kernel_rfl) (fun _ _ _ h => h) (Or.inl ⟨by rfl, ?_⟩) ?_ ?_
      rotate_left
      · intro w'
        go_simp
        with_reducible rfl
      rotate_left
      · simp only [Act.put, List.setIfInBounds_toArray, List.set_cons_zero, List.set_cons_succ, i64_w, i32_w]
        rfl
      refine take_ (i := 7) (N := some 30) (v := ?_) (a' := ?_) #[true, true, true, true, true, true, true, true, false, false] rfl rfl (by kernel_rfl) (fun _ _ _ h => h) (Or.inl ⟨by rfl, ?_⟩) hHeld ?_ ?_
      rotate_left
      · rintro w' ⟨s0, s1⟩
        go_simp
        with_reducible rfl
      rotate_left
      · simp only [Act.put, List.setIfInBounds_toArray, List.set_cons_zero, List.set_cons_succ, i64_w, i32_w]
        rfl
      refine pure_ (i := 8) (N := some 31) (v := ?_) (a' := ?_) #[true, true, true, true, true, true, true, true, true, false] rfl rfl (by kernel_rfl) (fun _ _ _ h => h) (Or.inl ⟨by rfl, ?_⟩) ?_ ?_
      rotate_left
      · intro w'
        go_simp
        with_reducible rfl
      rotate_left
      · simp only [Act.put, List.setIfInBounds_toArray, List.set_cons_zero, List.set_cons_succ, i64_w, i32_w]
        rfl
      refine last_ (i := 9) (N := none) #[true, true, true, true, true, true, true, true, true, true] rfl rfl (by kernel_rfl) (by decide) (fun K hK => ?_)
      have HN := Aside0.mk (HS1.out.put t (rd wd (wrap64 (t - p))) (by omega))
      obtain ⟨hct, hft⟩ := Kd.R_celln 0 HS1.out.2.2.2.2.2.1 t c4 c5
      refine impl_WordSequence.st (w1 := W1.setCell ⟨bx, t.toNat, none⟩ (.int .i64 (rd wd (wrap64 (t - p))))) rfl (by rfl) (by first | (go_simp; done) | (go_simp; rfl)) ?_
      refine hK.out _ _ ?_
      clear hK K hct hft
      refine done_ (by kernel_rfl) ?_
      generalize W1.setCell ⟨bx, t.toNat, none⟩ (.int .i64 (rd wd (wrap64 (t - p)))) = W2 at HN ⊢
      clear HS1 hHeld
      have hcs : W2.cell? ⟨bs, 0, none⟩ = some (.func (.func 43) #[] #[.pointer (some ⟨bk, 0, none⟩), .pointer (some ⟨bo, 0, none⟩), .pointer (some ⟨bw, 0, none⟩), .pointer (some ⟨bs, 0, none⟩), .pointer (some ⟨bd, 0, none⟩)]) := (blk_cell HN.out.2.2.1 0).trans rfl
      go_wp2_with fail
      refine (ih k (Nat.le_refl _) (wrap64 (t + 1)) p out _ o1 d1 _ HN.out HA1.out).mono ?_
      rintro e W3 ⟨rfl, hS3⟩
      clear HN HA1 hcs
      have HS3 := Aside0.mk hS3
      clear hS3
      have hcw : W3.cell? ⟨bw, 0, none⟩ = some (.slice (some ⟨bx, 0, none⟩) d1.length cx) := (blk_cell HS3.out.2.2.2.2.1 0).trans rfl
      have hcr : W3.cell? ⟨bx, (wrap64 (t - p)).toNat, none⟩ = some (.int .i64 (rd d1 (wrap64 (t - p)))) := (Kd.R_celln 0 HS3.out.2.2.2.2.2.1 (wrap64 (t - p)) c2 c6).1
      have q6 := eq_true c6
      go_wp2
      go_loopg [9] k (fun kq v9 w' => ∃ (x : Int) (o2 d2 : List Int), v9 = .int .i64 x ∧ Aside0 (impl_WordSequence.lp kq d K t x o2 d2 = some (out', wd')) ∧ Aside0 (kq ≤ k) ∧ Aside0 (impl_WordSequence.St d K bk bo bw bs bd bx cx w0 w' o2 d2))
      case atStart => exact ⟨_, o1, d1, rfl, H, ⟨Nat.le_refl _⟩, HS3⟩
      case round =>
        clear H HS3 hcw hcr q2 q3 q4 q5 q6 c1b
        obtain ⟨x, o2, d2, rfl, HA, HKq, HS4⟩ := hrel
        cases gk with
        | zero => exact absurd HA.out (by simp [impl_WordSequence.lp])
        | succ k1 =>
          have h := HA.out
          clear HA
          simp only [impl_WordSequence.lp] at h
          have hcd : wr.cell? ⟨bd, 0, none⟩ = some (.int .i64 d) := (blk_cell HS4.out.2.1 0).trans rfl
          by_cases e1 : x < d
          · rw [if_pos e1] at h
            have e1b : decide (x < d) = true := decide_eq_true e1
            clear e1
            rw [if_pos c4] at h
            by_cases e2 : t < (d2.length : Int)
            case neg => rw [if_neg e2] at h; cases h
            rw [if_pos e2] at h
            obtain ⟨⟨o3, d3⟩, A1, h⟩ := Option.bind_eq_some_iff.mp h
            dsimp only at h
            have HA1 := Aside0.mk A1
            have H := Aside0.mk h
            clear h A1
            have q4 := eq_true c4
            have q5 := eq_true e2
            have hcw : wr.cell? ⟨bw, 0, none⟩ = some (.slice (some ⟨bx, 0, none⟩) d2.length cx) := (blk_cell HS4.out.2.2.2.2.1 0).trans rfl
            obtain ⟨hct, hft⟩ := Kd.R_celln 0 HS4.out.2.2.2.2.2.1 t c4 e2
            have hcs : (wr.setCell ⟨bx, t.toNat, none⟩ (.int .i64 x)).cell? ⟨bs, 0, none⟩ = some (.func (.func 43) #[] #[.pointer (some ⟨bk, 0, none⟩), .pointer (some ⟨bo, 0, none⟩), .pointer (some ⟨bw, 0, none⟩), .pointer (some ⟨bs, 0, none⟩), .pointer (some ⟨bd, 0, none⟩)]) := (blk_cell (HS4.out.put t x (by omega)).2.2.1 0).trans rfl
            go_wp2_with fail
            refine (ih k1 (by have := HKq.out; omega) (wrap64 (t + 1)) t o2 _ o3 d3 _ (HS4.out.put t x (by omega)) HA1.out).mono ?_
            rintro e W5 ⟨rfl, hS5⟩
            have HS5 := Aside0.mk hS5
            clear hS5 HA1 HS4
            go_wp2
            go_roundg k1
            case measure => have := HKq.out; omega
            case rel => exact ⟨_, o3, d3, by first | rfl | (simp; done) | (simp [*]; done), H, ⟨by have := HKq.out; omega⟩, HS5⟩
          · rw [if_neg e1] at h
            have e1b : decide (x < d) = false := decide_eq_false e1
            simp only [Option.some.injEq, Prod.mk.injEq] at h
            obtain ⟨rfl, rfl⟩ := h
            go_wp2
            go_end0
            exact ⟨rfl, HS4.out⟩
theorem impl_WordSequence.new {W : World} {o : Obj} {i : Nat} (h : i = W.heap.size) : (W.alloc o).heap[i]? = some o := by rw [h]; exact blk_new W o
theorem impl_WordSequence.row {base n g : Nat} {W W0 : World} {cells : Array Value} {xs : List Int} {ok : Nat → Prop} (hb : base ≤ g) (h : W.heap[g]? = some (.cells cells 2 (0, 0))) (hl : xs.length = n) (hm : n ≤ 1000) (hr : Reps ((Kd.int .i64).M W0 base (fun _ => True)) 1 xs cells.toList) (hok : ok g) :
    Kd.R (Kd.int .i64) 2 W base ok (.slice (some ⟨g, 0, none⟩) n n) xs := by
  subst hl
  have hs : cells.size = xs.length * 1 := by have := hr.1; simp at this; omega
  exact ⟨fun k_ hk => by obtain rfl : g = k_ := (Option.some.inj hk); exact hok, cells.toList, ⟨by rw [Array.length_toList]; exact hs, .inr ⟨g, xs.length, cells, rfl, hb, h, Nat.le_refl _, by simp [maxLen]; omega, hs, List.take_of_length_le (by rw [Array.length_toList, hs]; exact Nat.le_refl _)⟩⟩, hr.imp_ (fun p c hp => hp)⟩
theorem impl_WordSequence.mk (n : Int) (h0 : 0 ≤ n) (hl : n ≤ 1000) (W : World) : (Instr.makeSlice 22 (.int .i64 n) (.int .i64 n)).run Try.prog W = .ok (.slice (some ⟨W.heap.size, 0, none⟩) n.toNat n.toNat) (W.alloc (.cells (madeCells (Value.int .i64 0).cells n.toNat) 2)) := by
  obtain ⟨i0, hi, hzz⟩ := Option.map_eq_some_iff.1 info2
  simp only [Prod.mk.injEq] at hzz
  obtain ⟨hz0, hz1, hz2⟩ := hzz
  have hr := run_make (P := Try.prog) W 22 2 i0 (.int .i64 0) Try.underlying22 hi hz0 .i64 .i64 n n (by omega) (by omega) (by rw [hz2]; omega) (by omega)
  rw [hz1, Nat.mul_one] at hr
  exact hr
def impl_WordSequence.f (k : Nat) (d K : Int) : Option (List Int × Int) := if d < 1 then some ([], 2) else if d > 10 then some ([], 2) else if K < 1 then some ([], 2) else if K > 10 then some ([], 2) else (impl_capped.f k d K 1024).bind fun c => if c > 1024 then some ([], 3) else (impl_WordSequence.walk k d K 1 1 [] (List.replicate (K + 1).toNat 0)).bind fun s => some (s.1, 0)
set_option maxHeartbeats 8000000 in
set_option maxRecDepth 100000 in
theorem impl_WordSequence.calls (k : Nat) (a0 : Int) (a1 : Int) (r1 : List Int) (r2 : Int) (w : World) (h : impl_WordSequence.f k a0 a1 = some (r1, r2)) :
    Calls Try.prog 11 #[.int .i64 a0, .int .i64 a1] w fun e w' => ∃ v0_ : Value, e = .returned (.tuple #[v0_, .int .i64 r2]) ∧ Kd.R (Kd.int .i64) 2 w' w.heap.size (fun _ => True) v0_ r1 ∧ Below w.heap.size w w' := by
  have HB := Aside0.mk (((Below.refl w.heap.size w).alloc (Nat.le_refl _) (.cells #[.int .i64 a0] 2)).alloc (by simp) (.cells #[.int .i64 a1] 2))
  have BD := Aside0.mk (blk_alloc (blk_new w (.cells #[.int .i64 a0] 2)) (.cells #[.int .i64 a1] 2))
  have BK := Aside0.mk (blk_new (w.alloc (.cells #[.int .i64 a0] 2)) (.cells #[.int .i64 a1] 2))
  rw [show (w.alloc (.cells #[.int .i64 a0] 2)).heap.size = w.heap.size + 1 by simp] at BK
  unfold impl_WordSequence.f at h
  by_cases c1 : a0 < 1
  · rw [if_pos c1] at h
    simp only [Option.some.injEq, Prod.mk.injEq] at h
    obtain ⟨rfl, rfl⟩ := h
    have c1b : decide (a0 < 1) = true := decide_eq_true c1
    go_enter Try.func11, Try.ntmps11
    go_wp2_with fail
    repeat (go_quiet (fail); try go_wp2)
    go_ret2
    exact ⟨_, rfl, Kd.R_nil _ _ _ _ _, HB.out⟩
  rw [if_neg c1] at h
  have c1b : decide (a0 < 1) = false := decide_eq_false c1
  by_cases c2 : a0 > 10
  · rw [if_pos c2] at h
    simp only [Option.some.injEq, Prod.mk.injEq] at h
    obtain ⟨rfl, rfl⟩ := h
    have c2b : decide (a0 > 10) = true := decide_eq_true c2
    go_enter Try.func11, Try.ntmps11
    go_wp2_with fail
    repeat (go_quiet (fail); try go_wp2)
    go_ret2
    exact ⟨_, rfl, Kd.R_nil _ _ _ _ _, HB.out⟩
  rw [if_neg c2] at h
  have c2b : decide (a0 > 10) = false := decide_eq_false c2
  by_cases c3 : a1 < 1
  · rw [if_pos c3] at h
    simp only [Option.some.injEq, Prod.mk.injEq] at h
    obtain ⟨rfl, rfl⟩ := h
    have c3b : decide (a1 < 1) = true := decide_eq_true c3
    go_enter Try.func11, Try.ntmps11
    go_wp2_with fail
    repeat (go_quiet (fail); try go_wp2)
    go_ret2
    exact ⟨_, rfl, Kd.R_nil _ _ _ _ _, HB.out⟩
  rw [if_neg c3] at h
  have c3b : decide (a1 < 1) = false := decide_eq_false c3
  by_cases c4 : a1 > 10
  · rw [if_pos c4] at h
    simp only [Option.some.injEq, Prod.mk.injEq] at h
    obtain ⟨rfl, rfl⟩ := h
    have c4b : decide (a1 > 10) = true := decide_eq_true c4
    go_enter Try.func11, Try.ntmps11
    go_wp2_with fail
    repeat (go_quiet (fail); try go_wp2)
    go_ret2
    exact ⟨_, rfl, Kd.R_nil _ _ _ _ _, HB.out⟩
  rw [if_neg c4] at h
  have c4b : decide (a1 > 10) = false := decide_eq_false c4
  obtain ⟨c, A1, h⟩ := Option.bind_eq_some_iff.mp h
  have HA1 := Aside0.mk A1
  have H := Aside0.mk h
  clear A1 h
  go_enter Try.func11, Try.ntmps11
  go_wp2_with fail
  repeat (go_quiet (fail); try go_wp2_with fail)
  refine (impl_capped.calls k a0 a1 1024 c _ HA1.out).mono ?_
  rintro e W1 ⟨rfl, hb⟩
  have BD1 := Aside0.mk (blk_below BD.out hb)
  have BK1 := Aside0.mk (blk_below BK.out hb)
  have HB1 := Aside0.mk (below_then HB.out (below_size HB.out) hb)
  clear HB BD BK HA1 hb
  have h := H.out
  by_cases c5 : c > 1024
  · rw [if_pos c5] at h
    simp only [Option.some.injEq, Prod.mk.injEq] at h
    obtain ⟨rfl, rfl⟩ := h
    have c5b : decide (c > 1024) = true := decide_eq_true c5
    go_wp2
    go_ret2
    exact ⟨_, rfl, Kd.R_nil _ _ _ _ _, HB1.out⟩
  rw [if_neg c5] at h
  have c5b : decide (c > 1024) = false := decide_eq_false c5
  obtain ⟨⟨o1, d1⟩, A1, h⟩ := Option.bind_eq_some_iff.mp h
  dsimp only at h
  simp only [Option.some.injEq, Prod.mk.injEq] at h
  obtain ⟨rfl, rfl⟩ := h
  have HA1 := Aside0.mk A1
  have HBD := BD1
  clear A1 H
  have e11 : wrap64 (a1 + 1) = a1 + 1 := by rw [wrap64, Int.emod_eq_of_lt (by omega) (by omega)]; omega
  have hck : W1.cell? ⟨w.heap.size + 1, 0, none⟩ = some (.int .i64 a1) := (blk_cell BK1.out 0).trans rfl
  have hmk := impl_WordSequence.mk (IntKind.i64.wrap (a1 + 1)) (by rw [i64_w, e11]; omega) (by rw [i64_w, e11]; omega)
  rw [show (IntKind.i64.wrap (a1 + 1)).toNat = (a1 + 1).toNat by rw [i64_w, e11]] at hmk
  generalize hZ : madeCells (Value.int .i64 0).cells (a1 + 1).toNat = Z at hmk
  generalize hn : (a1 + 1).toNat = n at hmk
  rw [hn] at HA1
  have hzr : Reps ((Kd.int .i64).M W1 w.heap.size (fun _ => True)) 1 (List.replicate n (0 : Int)) Z.toList := by rw [← hZ, ← hn]; have := Kd.reps_made (R := (Kd.int .i64).M W1 w.heap.size (fun _ => True)) (z := .int .i64 0) (size := 1) (z0 := (0 : Int)) rfl (by decide) rfl (a1 + 1).toNat; rwa [Nat.mul_one] at this
  go_wp2
  have hlt := blk_lt BK1.out
  rename_i K hK
  have hrest : ∀ (bo bw ga bx : Nat) (W' : World), W'.heap[w.heap.size]? = some (.cells #[.int .i64 a0] 2 (0, 0)) → W'.heap[w.heap.size + 1]? = some (.cells #[.int .i64 a1] 2 (0, 0)) → W'.heap[ga]? = some (.cells #[] 2 (0, 0)) → W'.heap[bx]? = some (.cells Z 2 (0, 0)) →
      W'.heap[bo]? = some (.cells #[.slice (some ⟨ga, 0, none⟩) 0 0] 22 (0, 0)) → W'.heap[bw]? = some (.cells #[.slice (some ⟨bx, 0, none⟩) n n] 22 (0, 0)) → W1.heap.size ≤ ga → W1.heap.size ≤ bx → W1.heap.size ≤ bo → W1.heap.size ≤ bw → ga ≠ bx → bo ≠ bw → Below w.heap.size w W' →
      K { tmps := #[.int .i64 a0, .int .i64 a1, .pointer (some ⟨w.heap.size, 0, none⟩), .pointer (some ⟨w.heap.size + 1, 0, none⟩), .slice none 0 0, .int .i64 0, .pointer (some ⟨bo, 0, none⟩), .pointer (some ⟨bw, 0, none⟩), undef, .bool false, .int .i64 a0, .bool false, .bool false, .int .i64 a0, .bool false, .bool false, .bool false, .int .i64 a1, .bool false, .bool false, .bool false, .int .i64 a1, .bool false, .bool false, .bool false, .int .i64 a0, .int .i64 a1, .int .i64 c, .bool false, .slice (some ⟨ga, 0, none⟩) 0 0, .int .i64 a1, .int .i64 (IntKind.i64.wrap (a1 + 1)), .slice (some ⟨bx, 0, none⟩) n n, undef, undef, undef, undef], defers := [] } W' := by
    intro bo bw ga bx W' f1 f2 f3 f4 f5 f6 g1 g2 g3 g4 n1 n2 fb
    refine hK _ _ ?_
    dsimp only
    have hl1 := blk_lt BD1.out
    have hSt : impl_WordSequence.St a0 a1 (w.heap.size + 1) bo bw W'.heap.size w.heap.size bx n w (W'.alloc (.cells #[.func (.func 43) #[] #[.pointer (some ⟨w.heap.size + 1, 0, none⟩), .pointer (some ⟨bo, 0, none⟩), .pointer (some ⟨bw, 0, none⟩), .pointer (some ⟨W'.heap.size, 0, none⟩), .pointer (some ⟨w.heap.size, 0, none⟩)]] 58)) [] (List.replicate n 0) := by
      refine ⟨blk_alloc f2 _, blk_alloc f1 _, blk_new W' _, ⟨_, blk_alloc f5 _, impl_WordSequence.row (W0 := W1) (by omega) (blk_alloc f3 _) rfl (by omega) (Reps.none _ _) ⟨by omega, by omega, n1⟩⟩, ?_, ?_, below_alloc fb _⟩
      · rw [List.length_replicate]; exact blk_alloc f6 _
      · rw [List.length_replicate]
        exact impl_WordSequence.row (by omega) (blk_alloc f4 _) (List.length_replicate ..) (by omega) hzr ⟨by omega, by omega⟩
    have HS := Aside0.mk hSt
    clear hSt f1 f2 f3 f4 f5 f6
    go_wp2_with fail
    refine (impl_WordSequence.lit a0 a1 (w.heap.size + 1) bo bw W'.heap.size w.heap.size bx n w (by omega) n2 k k (Nat.le_refl _) 1 1 [] (List.replicate n 0) o1 d1 _ HS.out HA1.out).mono ?_
    rintro e W3 ⟨rfl, hS3⟩
    have HS3 := Aside0.mk hS3
    clear hS3 HS
    obtain ⟨vo, hvo, hro⟩ := HS3.out.2.2.2.1
    obtain ⟨Ao, co, rfl⟩ := Kd.R_slice hro
    have hco : W3.cell? ⟨bo, 0, none⟩ = some (.slice Ao o1.length co) := (blk_cell hvo 0).trans rfl
    go_wp2
    go_ret2
    exact ⟨_, rfl, Kd.R_mono hro (fun _ _ => trivial), HS3.out.2.2.2.2.2.2⟩
  clear hK
  go_region_held3 (fun w_ => w_.cell? ⟨w.heap.size + 1, 0, none⟩ = some (.int .i64 a1)) (repeat' (first | exact hck | refine (World.cell?_drew _ _).trans ?_ | refine (World.cell?_alloc_lt _ _ _ ?_).trans ?_ | refine (World.cell?_setCell_far _ _ _ _ ?_).trans ?_ | (simp; omega) | omega)) (fail)
  all_goals
    refine hrest _ _ _ _ _ ?_ ?_ ?_ ?_ ?_ ?_ ?_ ?_ ?_ ?_ ?_ ?_ ?_
    all_goals first | omega | (repeat' (first | exact BD1.out | exact BK1.out | exact HB1.out | exact impl_WordSequence.new (by simp) | refine blk_drew ?_ | refine blk_alloc ?_ _ | apply below_alloc | apply below_drew))

end Go.Proofs.Ytcffgfomicpbfaa.P
