-- Printed by a program of this workplace (wip/xp/xp.py) over the kit's print.
import Derived.Test.YtcffgfomicpbfaaP0
namespace Go.Proofs.Ytcffgfomicpbfaa.P
open Go.RowKit Go.Proofs.YtcffgfomicpbfaaW.PrintWords Go.Proofs.YtcffgfomicpbfaaW.PrintLast Go.Proofs.YtcffgfomicpbfaaW.PrintMore
attribute [local go_sem] max2_int min2_int max_two min_two max_three min_three max_four min_four   -- for this text's walks alone
set_option linter.unusedVariables false
set_option linter.unusedSimpArgs false

/-! ### slices_Concat_int64_int64: function 83 -/
/-- (Of rows that hold something together.) -/
def slices_Concat_int64_int64.f (l0 : List (List Int)) : Option (List Int) := if 1 ≤ l0.flatten.length then (if l0.flatten.length ≤ 1000000 then (if l0.length ≤ 1000000 then some l0.flatten else none) else none) else none
theorem slices_Concat_int64_int64.sum (S L : Nat) (h : S + L ≤ 1000000) : wrap64 ((S : Int) + (L : Int)) = ((S + L : Nat) : Int) ∧ IntKind.i64.wrap ((S : Int) + (L : Int)) = ((S + L : Nat) : Int) ∧ decide (((S + L : Nat) : Int) < 0) = false ∧ decide ((S : Int) + (L : Int) < 0) = false := by
  refine ⟨?_, ?_, decide_eq_false (by omega), decide_eq_false (by omega)⟩
  · unfold wrap64
    omega
  · rw [IntKind.wrap_i64]
    omega
set_option maxHeartbeats 4000000 in
/-- A slice of no numbers, with room for n. -/
theorem slices_Concat_int64_int64.grow (n : Nat) (n1 : 1 ≤ n) (n2 : n ≤ 1000000) (w : World) :
    Calls Try.prog 93 #[.slice none 0 0, .int .i64 n] w fun e w' => ∃ v0_ : Value, e = .returned (v0_) ∧ Kd.R (Kd.int .i64) 2 w' w.heap.size (fun _ => True) v0_ ([] : List Int) ∧ Below w.heap.size w w' := by
  obtain ⟨i0, hi0, hz0, hs0, hb0⟩ : ∃ i0 : TypeInfo, Try.prog.info? 2 = some i0 ∧ i0.zero = some (.int .i64 0) ∧ i0.size = 1 ∧ i0.bytes = 8 := by
    have h := info2
    cases hi : Try.prog.info? 2 with
    | none => rw [hi] at h; cases h
    | some i0 =>
      rw [hi] at h
      have h2 := Option.some.inj h
      exact ⟨i0, rfl, congrArg (fun p => p.1) h2, congrArg (fun p => p.2.1) h2, congrArg (fun p => p.2.2) h2⟩
  have hrun : ∀ W : World, (Builtin.append_ #[22, 3] 22 #[.slice none 0 0, .int .i64 n]).run Try.prog W = .ok (.slice (some ⟨W.heap.size, 0, none⟩) n (grownCap W n 0 2)) (W.drew.alloc (.cells (Builtin.zeroCells (Value.int .i64 0).cells n ++ Builtin.zeroCells (Value.int .i64 0).cells (grownCap W n 0 2 - n)) 2)) :=
    fun W => Lib.run_append_nil_zeros W 22 3 22 2 i0 (.int .i64 0) .i64 .i64 Try.underlying22 Try.underlying3 hi0 hz0 n (by omega) (by omega) (by omega) (by rw [hb0]; omega)
  have hc1 : ∀ W : World, n ≤ grownCap W n 0 2 := fun W => grownCap_ge W n 0 _
  have hc2 : ∀ W : World, grownCap W n 0 2 ≤ maxLen := fun W => grownCap_le_maxLen W n 0 _ (by unfold maxLen; omega)
  have HC1 := Aside0.mk hc1
  have HC2 := Aside0.mk hc2
  have HRUN := Aside0.mk hrun
  have HI := Aside0.mk hi0
  clear hc1 hc2 hrun hi0 hz0 hs0 hb0
  have p0 : ¬ ((n : Int) < 0) := by omega
  have p1 : 0 < (n : Int) := by omega
  have q1 : wrap64 ((n : Int) - 0) = (n : Int) := by unfold wrap64; omega
  have d1 : decide ((n : Int) < 0) = false := decide_eq_false (by omega)
  have d2 : decide (0 < (n : Int)) = true := decide_eq_true (by omega)
  go_enter Try.func93, Try.ntmps93
  go_wp2_with (at_builtin; refine Lib.wpList_append_run _ rfl _ _ _ _ rfl _ _ rfl rfl _ _ (HRUN.out _) ?_)
  go_ret
  refine ⟨_, rfl, ?_, ((Below.refl _ _).drew).alloc (Nat.le_refl _) _⟩
  refine Kd.R_of_own ⟨by simp [encs], .inr ⟨w.heap.size, grownCap w n 0 2, _, rfl, Nat.le_refl _, blk_new w.drew _, Nat.zero_le _, HC2.out w, ?_, by simp [encs]⟩⟩ (fun _ _ => trivial)
  have := HC1.out w
  simp [Builtin.zeroCells, Value.cells]
  omega
set_option maxHeartbeats 8000000 in
set_option maxRecDepth 100000 in
theorem slices_Concat_int64_int64.calls (A0 : Option Addr) (c0 : Nat) (l0 : List (List Int)) (r : List Int) (w : World) (hr0 : Kd.C (Kd.slice 2 (Kd.int .i64)) w A0 l0.length l0) (hc0 : l0.length ≤ c0) (h : slices_Concat_int64_int64.f l0 = some r) :
    Calls Try.prog 83 #[.slice A0 l0.length c0] w fun e w' => ∃ v0_ : Value, e = .returned (v0_) ∧ Kd.R (Kd.int .i64) 2 w' w.heap.size (fun _ => True) v0_ r ∧ Below w.heap.size w w' := by
  unfold slices_Concat_int64_int64.f at h
  split at h
  case isFalse => cases h
  case isTrue n1 =>
  split at h
  case isFalse => cases h
  case isTrue n2 =>
  split at h
  case isFalse => cases h
  case isTrue n3 =>
  obtain rfl := Option.some.inj h
  clear h
  have HR := Aside0.mk hr0
  have HC := Aside0.mk hc0
  -- the lengths of the first rows
  obtain ⟨sz, hsz⟩ : ∃ sz : Nat → Nat, ∀ k, sz k = (l0.take k).flatten.length := ⟨fun k => (l0.take k).flatten.length, fun _ => rfl⟩
  have hstep : ∀ k, k < l0.length → (l0.take (k + 1)).flatten = (l0.take k).flatten ++ rd_L1 l0 k := fun k hk => by
    have e : rd_L1 l0 (k : Int) = l0[k] := by simp [rd_L1, List.getD_eq_getElem?_getD, List.getElem?_eq_getElem hk]
    rw [e, List.take_succ_eq_append_getElem hk, List.flatten_append]
    simp
  have hszs : ∀ k, k < l0.length → sz (k + 1) = sz k + (rd_L1 l0 k).length := fun k hk => by
    rw [hsz, hsz, hstep k hk, List.length_append]
  have hszm : ∀ k, sz k ≤ l0.flatten.length := fun k => by
    rw [hsz]
    have : l0.flatten = (l0.take k).flatten ++ (l0.drop k).flatten := by rw [← List.flatten_append, List.take_append_drop]
    rw [this, List.length_append]
    omega
  have hszn : sz l0.length = l0.flatten.length := by rw [hsz, List.take_of_length_le (Nat.le_refl _)]
  have HS := Aside0.mk hszs
  have HM := Aside0.mk hszm
  have HZ := Aside0.mk hsz
  have HN := Aside0.mk hszn
  have HST := Aside0.mk hstep
  have z0 : sz 0 = 0 := by rw [hsz]; rfl
  have HZ0 := Aside0.mk z0
  obtain ⟨T, hT⟩ : ∃ T : Nat, l0.flatten.length = T := ⟨_, rfl⟩
  have HT := Aside0.mk hT
  rw [hT] at n1 n2
  clear hr0 hc0 hsz hstep hszs hszm hszn z0 hT
  have HGR := fun W => slices_Concat_int64_int64.grow T n1 n2 W
  go_enter Try.func83, Try.ntmps83
  go_wp2
  go_loopg [3, 5, 11] l0.length (fun gg s3 _ s11 wr => ∃ kk : Nat, kk ≤ l0.length ∧ l0.length - kk ≤ gg ∧ s3 = .int .i64 (sz kk : Nat) ∧ s11 = .int .i64 kk ∧ Aside0 (w = wr))
  case atStart => exact ⟨0, Nat.zero_le _, by omega, by rw [HZ0.out]; rfl, rfl, ⟨rfl⟩⟩
  case round =>
    obtain ⟨kk, hkk, hg, rfl, rfl, ⟨rfl⟩⟩ := hrel
    by_cases hlt : kk < l0.length
    · have hltz : (kk : Int) < (l0.length : Int) := by omega
      obtain ⟨ad, A1, c1, ea, hcell, _, _⟩ := at_L1 HR.out kk (by omega) (by omega)
      cases ea
      rw [Int.toNat_natCast] at hcell
      have hs := HS.out kk hlt
      have hm := HM.out (kk + 1)
      have hT := HT.out
      obtain ⟨L, hL⟩ : ∃ L : Nat, (rd_L1 l0 kk).length = L := ⟨_, rfl⟩
      rw [hL] at hcell hs
      have hb1 : sz kk + L ≤ 1000000 := by omega
      obtain ⟨hw, hw2, hn, hn2⟩ := slices_Concat_int64_int64.sum (sz kk) L hb1
      have HSK := Aside0.mk hs
      clear hs hm hT hL hb1
      generalize sz kk = S at *
      obtain ⟨Z, hZ⟩ : ∃ Z : Int, ((S + L : Nat) : Int) = Z := ⟨_, rfl⟩
      rw [hZ] at hw hw2 hn
      have HZZ := Aside0.mk hZ
      clear hZ
      go_wp2
      go_roundg (l0.length - (kk + 1))
      case measure => omega
      case rel => exact ⟨kk + 1, by omega, by omega, by rw [HSK.out, HZZ.out], by go_num, ⟨rfl⟩⟩
    · have hltz : ¬ (kk : Int) < (l0.length : Int) := by omega
      have hk : kk = l0.length := by omega
      have hsT : sz kk = T := by rw [hk, HN.out, HT.out]
      rw [hsT]
      have HK := Aside0.mk hk
      clear hk hsT
      go_wp2_with (go_at_call 93; refine (HGR _).mono ?_; rintro e w2 ⟨v0, rfl, hR, hb⟩; have HO := Aside0.mk hR; have HB := Aside0.mk hb; clear hR hb)
      go_loopg [6, 8, 27] l0.length (fun gg s6 _ s27 wr => ∃ (kk : Nat) (ys : List Int), kk ≤ l0.length ∧ l0.length - kk ≤ gg ∧ s27 = .int .i64 kk ∧ Aside0 (ys = (l0.take kk).flatten) ∧ Aside0 (Kd.R (Kd.int .i64) 2 wr w.heap.size (fun _ => True) s6 ys) ∧ Aside0 (Below w.heap.size w wr))
      case atStart => exact ⟨0, [], Nat.zero_le _, by omega, rfl, ⟨by simp⟩, HO, HB⟩
      case round =>
        clear HO HB
        obtain ⟨kk, ys, hkk, hg, rfl, HY, HO, HB⟩ := hrel
        obtain ⟨Ao, co, eo⟩ := Kd.R_slice HO.out
        subst eo
        by_cases hlt : kk < l0.length
        · have hltz : (kk : Int) < (l0.length : Int) := by omega
          obtain ⟨ad, A1, c1, ea, hcell, hl1, hi1⟩ := at_L1 (Kd.C_below HR.out HB.out) kk (by omega) (by omega)
          cases ea
          rw [Int.toNat_natCast] at hcell
          have hst := HST.out kk hlt
          have hm := HM.out (kk + 1)
          rw [HZ.out, hst, List.length_append, ← HY.out] at hm
          have hT := HT.out
          have hlm : ys.length + (rd_L1 l0 kk).length ≤ 1000000 := by omega
          have HST2 := Aside0.mk hst
          have HI1 := Aside0.mk hi1
          have HL1 := Aside0.mk hl1
          have HLM := Aside0.mk hlm
          clear hst hm hT hi1 hl1 hlm
          go_wp2_with ((with_reducible refine gate_builtin (b := .append) (xs := #[.tmp 31, .tmp 32]) rfl ?_); at_builtin; refine Kd.R_append_rows (Kd.int .i64) (w0 := w) w.heap.size rfl (.tmp 31) (.tmp 32) 22 2 (.int .i64 0) 8 rfl Try.underlying22 info2 rfl (by decide) (by omega) _ ys (rd_L1 l0 kk) _ _ _ (fun _ => True) (fun _ => False) rfl rfl ?aO ?aR (fun _ _ h => h) (fun _ h => h.elim) ?aF ?aB ?aS ?aL ?_; (case aR => exact HI1.out); (case aB => exact HB.out); (case aF => exact (fun _ _ => trivial)); (case aO => exact HO.out); (case aS => exact (below_size HB.out)); (case aL => have := HLM.out; simp; omega); intro v128 w5 ho hb hg hat; have n0_ := Aside0.mk (hb); have n1_ := Aside0.mk (ho); clear HB; clear HO; have HB := n0_; have HO129 := n1_; clear n0_ n1_; clear ho hb hg hat)
          go_roundg (l0.length - (kk + 1))
          case measure => omega
          case rel => exact ⟨kk + 1, ys ++ rd_L1 l0 kk, by omega, by omega, by go_num, ⟨by rw [HST2.out, HY.out]⟩, HO129, HB⟩
        · have hltz : ¬ (kk : Int) < (l0.length : Int) := by omega
          have hk : kk = l0.length := by omega
          have HK2 := Aside0.mk hk
          clear hk
          go_wp2
          go_ret
          refine ⟨_, rfl, ?_, HB.out⟩
          have e : ys = l0.flatten := by rw [HY.out, HK2.out, List.take_of_length_le (Nat.le_refl _)]
          rw [← e]
          exact HO.out

end Go.Proofs.Ytcffgfomicpbfaa.P
