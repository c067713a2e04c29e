-- Printed by a program of this workplace (wip/xp/xp.py) over the kit's print.
import Derived.Test.YtmofdldplbplbaaDoorP0
import Derived.Test.YtmofdldplbplbaaDoorP36
namespace Go.Proofs.YtmofdldplbplbaaDoor.P
open Go.RowKit Go.Proofs.YtmofdldplbplbaaDoorW.PrintWords Go.Proofs.YtmofdldplbplbaaDoorW.PrintLast Go.Proofs.YtmofdldplbplbaaDoorW.PrintMore
attribute [local go_sem] max2_int min2_int max_two min_two max_three min_three max_four min_four   -- for this text's walks alone
set_option linter.unusedVariables false
set_option linter.unusedSimpArgs false

/-! ### slices_Repeat_int64_int64: function 167 -/
/-- (Of a list of one element, as the program asks it.) -/
def slices_Repeat_int64_int64.f (l0 : List Int) (a1 : Int) : Option (List Int) := if l0.length = 1 then (if 0 ≤ a1 then (if a1 ≤ 1000000 then some (List.replicate a1.toNat (rd l0 0)) else none) else none) else none
theorem slices_Repeat_int64_int64.mul (c : Nat) (hc : c ≤ 1000000) : bits_Mul.f 1 (c : Int) = some (0, (c : Int)) := by
  have a1 : bits .and .u64 (c : Int) 4294967295 = (c : Int) := by
    rw [show (4294967295 : Int) = ((4294967295 : Nat) : Int) from rfl, bits_and_u64_nat c _ (by omega) (by decide)]
    have := Nat.and_two_pow_sub_one_eq_mod c 32
    rw [show (2 : Nat) ^ 32 - 1 = 4294967295 from rfl] at this
    rw [this]
    omega
  have a2 : bits .and .u64 1 4294967295 = 1 := by decide
  have w0 : ∀ z : Int, 0 ≤ z → z < 18446744073709551616 → IntKind.u64.wrap z = z := fun z h0 h1 => by rw [IntKind.wrap_u64]; omega
  have d1 : (1 : Int) / 4294967296 = 0 := by decide
  have d2 : (c : Int) / 4294967296 = 0 := by omega
  have a3 : bits .and .u64 0 4294967295 = 0 := by decide
  unfold bits_Mul.f bits_Mul64.f
  simp only [a1, a2, d1, d2, Int.zero_mul, Int.mul_zero, Int.one_mul, w0 0 (by decide) (by decide), w0 (c : Int) (by omega) (by omega), Int.zero_add, Int.add_zero, a3, Int.zero_ediv, Option.bind_some]
set_option maxHeartbeats 8000000 in
set_option maxRecDepth 100000 in
theorem slices_Repeat_int64_int64.calls (A0 : Option Addr) (c0 : Nat) (l0 : List Int) (a1 : Int) (r : List Int) (w : World) (hr0 : Kd.C (Kd.int .i64) w A0 l0.length l0) (hc0 : l0.length ≤ c0) (h : slices_Repeat_int64_int64.f l0 a1 = some r) :
    Calls Tryd.prog 167 #[.slice A0 l0.length c0, .int .i64 a1] w fun e w' => ∃ v0_ : Value, e = .returned (v0_) ∧ Kd.R (Kd.int .i64) 2 w' w.heap.size (fun _ => True) v0_ r ∧ Below w.heap.size w w' := by
  unfold slices_Repeat_int64_int64.f at h
  split at h
  case isFalse => cases h
  case isTrue hl =>
  split at h
  case isFalse => cases h
  case isTrue h0 =>
  split at h
  case isFalse => cases h
  case isTrue h1 =>
  obtain ⟨c, rfl⟩ := Int.eq_ofNat_of_zero_le h0
  obtain rfl := Option.some.inj h
  rw [Int.toNat_natCast]
  obtain ⟨ad, ea, hcell⟩ := Kd.at_int hr0 0 (by omega) (by omega)
  cases ea
  have hc : c ≤ 1000000 := by omega
  rw [show ad.add (0 : Int).toNat = ad.add 0 from rfl] at hcell
  generalize rd l0 0 = v at *
  clear h h0 h1 hr0
  rw [hl]
  rw [hl] at hc0
  have HC0 := Aside0.mk hc0
  clear hc0 hl
  have hmul := slices_Repeat_int64_int64.mul c hc
  have hmk := print_make (P := Tryd.prog) 24 2 .i64 8 Tryd.underlying24 info2 (by decide) c (by omega)
  obtain ⟨Z, hZ⟩ : ∃ Z : List Value, madeCells #[.int .i64 0] c = Z.toArray ∧ Z.length = c := ⟨(madeCells #[.int .i64 0] c).toList, by simp, by simp [size_madeCells]⟩
  rw [hZ.1] at hmk
  have HZ := Aside0.mk hZ.2
  have HMUL := Aside0.mk hmul
  clear hZ hmul
  have cw : IntKind.u64.wrap (c : Int) = (c : Int) := by rw [IntKind.wrap_u64]; omega
  have d9 : decide (9223372036854775807 < (c : Int)) = false := decide_eq_false (by omega)
  have c0' : 0 ≤ (c : Int) := by omega
  have c1' : (c : Int) ≤ 1000000 := by omega
  go_enter Tryd.func167, Tryd.ntmps167
  obtain ⟨X, hX⟩ : ∃ X : List Value, X.length = Nat.min 1 c ∧ ∀ u ∈ X, u = .int .i64 v := ⟨if 0 < c then [.int .i64 v] else [], by show _ = min 1 c; split <;> simp <;> omega, by split <;> simp⟩
  have HX := Aside0.mk hX
  clear hX
  have hu := Tryd.underlying24
  have hsz : (Tryd.prog.info? 2).map (·.size) = some 1 := by kernel_rfl
  have HSZ := Aside0.mk hsz
  clear hsz
  go_wp2_with fail
  refine (bits_Mul.calls 1 (c : Int) 0 (c : Int) _ HMUL.out).mono ?_
  rintro e w2 ⟨rfl, ⟨nd, rfl⟩⟩
  go_wp2_with (refine wpList_copy_splice rfl (.tmp 31) (.tmp 32) 24 24 rfl 2 hu HSZ.out _ _ _ _ _ _ rfl rfl w.heap.size 0 Z 2 ?qg X HX.out.1 ?qp ?qf ?q1 w.heap.size w ?qb (Nat.le_refl _) ?_)
  case qp =>
    intro hpos
    intro j u hj
    have hjl := (List.getElem?_eq_some_iff.1 hj).1
    have hx1 : X.length = min 1 c := HX.out.1
    have j0 : j = 0 := by omega
    subst j0
    have hu := HX.out.2 u (List.mem_of_getElem? hj)
    rw [hu]
    have hlt := World.block_lt_of_cell? w _ hcell
    exact (World.cell?_alloc_lt _ _ _ hlt).trans hcell
  case qf => have e1 : X.length = min 1 c := HX.out.1; have := HZ.out; omega
  case qg => exact blk_new (w.drewN nd) (.cells Z.toArray 2)
  case q1 => intro u hu; rw [HX.out.2 u hu]; rfl
  case qb => exact ⟨rfl, rfl, rfl, by simp, fun i hi => by simp [World.alloc, Array.getElem?_push, Nat.ne_of_lt hi]⟩
  intro w3 hg3 hb3
  obtain ⟨k0, hk0⟩ : ∃ k0 : Nat, X.length = k0 := ⟨_, rfl⟩
  have hk1 : k0 = min 1 c := hk0.symm.trans HX.out.1
  have hcur : ∃ cur : List Value, cur.length = c ∧ w3.heap[w.heap.size]? = some (.cells cur.toArray 2 (0, 0)) ∧ ∀ j, j < k0 → cur[j]? = some (.int .i64 v) := by
    refine ⟨splice Z 0 X, ?_, hg3.out, ?_⟩
    · rw [length_splice _ _ _ (by have := HZ.out; omega)]
      exact HZ.out
    · intro j hj
      have hjx : j < X.length := by omega
      simp only [splice, List.take_zero, List.nil_append]
      rw [List.getElem?_append_left hjx, List.getElem?_eq_getElem hjx, HX.out.2 _ (List.getElem_mem hjx)]
  rw [hk0]
  have HCUR := Aside0.mk hcur
  have HB3 := Aside0.mk hb3
  have HK := Aside0.mk hk1
  clear hg3 hb3 hcur hk0 hk1
  go_wp2
  go_loopg [8] c (fun gg s8 wr => ∃ kk : Nat, kk ≤ c ∧ c - kk ≤ gg ∧ s8 = .int .i64 kk ∧ Aside0 (0 < c → 0 < kk) ∧ Aside0 (∃ cur : List Value, cur.length = c ∧ wr.heap[w.heap.size]? = some (.cells cur.toArray 2 (0, 0)) ∧ ∀ j, j < kk → cur[j]? = some (.int .i64 v)) ∧ Aside0 (Below w.heap.size w wr))
  case atStart => exact ⟨k0, by have := HK.out; omega, by omega, rfl, ⟨fun h => by have := HK.out; omega⟩, HCUR, HB3⟩
  case round =>
    clear HCUR HB3 HK
    obtain ⟨kk, hkk, hg, rfl, HP, HC, HB⟩ := hrel
    by_cases hlt : kk < c
    · have hltz : (kk : Int) < (c : Int) := by omega
      have hkz : 0 ≤ (kk : Int) := by omega
      have hkl : (kk : Int) ≤ (c : Int) := by omega
      obtain ⟨cur, hcl, hblk, hval⟩ := HC.out
      have HCL := Aside0.mk hcl
      have HBLK := Aside0.mk hblk
      have HVAL := Aside0.mk hval
      clear hcl hblk hval HC
      obtain ⟨Y, hY⟩ : ∃ Y : List Value, Y.length = Nat.min kk (c - kk) ∧ ∀ u ∈ Y, u = .int .i64 v := ⟨List.replicate (min kk (c - kk)) (.int .i64 v), List.length_replicate, by simp⟩
      have HY := Aside0.mk hY
      clear hY
      go_wp2
      have HBLK2 := Aside0.mk (blk_drew HBLK.out)
      have HB2 := Aside0.mk (below_drew HB.out)
      go_region_held3 (fun _ => True) (exact trivial) ((refine step_copy_splice rfl (.tmp 41) (.tmp 44) 24 24 rfl 2 hu HSZ.out _ _ _ _ _ _ rfl rfl w.heap.size kk cur 2 HBLK2.out Y HY.out.1 ?rp ?rf ?r1 w.heap.size w HB2.out (Nat.le_refl _) ?_; (case rf => have e1 : Y.length = min kk (c - kk) := HY.out.1; have := HCL.out; omega); (case r1 => intro u hu; rw [HY.out.2 u hu]; rfl); (case rp => intro hpos; refine ⟨if_neg (by omega), _, rfl, fun j u hj => ?_⟩; have hjl := (List.getElem?_eq_some_iff.1 hj).1; have e1 : Y.length = min kk (c - kk) := HY.out.1; rw [HY.out.2 u (List.mem_of_getElem? hj), add_plain]; have hb := blk_cell HBLK2.out j; rw [hb]; have := HVAL.out j (by omega); simpa using this); intro w4 hg4 hb4))
      have e1 : Y.length = min kk (c - kk) := HY.out.1
      have hk0 := HP.out (by omega)
      have hw : IntKind.i64.wrap ((kk : Int) + (Y.length : Int)) = ((kk + Y.length : Nat) : Int) := by rw [IntKind.wrap_i64]; omega
      have hnew : ∃ cur : List Value, cur.length = c ∧ w4.heap[w.heap.size]? = some (.cells cur.toArray 2 (0, 0)) ∧ ∀ j, j < kk + Y.length → cur[j]? = some (.int .i64 v) := by
        refine ⟨splice cur kk Y, ?_, hg4.out, ?_⟩
        · rw [length_splice _ _ _ (by have := HCL.out; omega)]
          exact HCL.out
        · intro j hj
          have hcl := HCL.out
          simp only [splice]
          by_cases h1 : j < kk
          · rw [List.getElem?_append_left (by simp; omega), List.getElem?_take_of_lt h1]
            exact HVAL.out j h1
          · rw [List.getElem?_append_right (by simp; omega), List.getElem?_append_left (by simp; omega), List.getElem?_eq_getElem (by simp; omega), HY.out.2 _ (List.getElem_mem _)]
      have HNEW := Aside0.mk hnew
      have HB4 := Aside0.mk hb4
      have E1 := Aside0.mk e1
      rw [hw]
      clear hnew hb4 hg4 hw e1
      go_wp2
      go_roundg (c - (kk + Y.length))
      case measure => have := E1.out; omega
      case rel => exact ⟨kk + Y.length, by have := E1.out; omega, by omega, rfl, ⟨fun _ => by omega⟩, HNEW, HB4⟩
    · have hltz : ¬ (kk : Int) < (c : Int) := by omega
      have hkc : kk = c := by omega
      have HKC := Aside0.mk hkc
      clear hkc
      go_wp2
      go_ret
      obtain ⟨cur, hcl, hblk, hval⟩ := HC.out
      refine ⟨_, rfl, ?_, HB.out⟩
      have ecur : cur = encs (Value.int .i64) (List.replicate c v) := by
        refine List.ext_getElem? fun j => ?_
        by_cases hj : j < c
        · rw [hval j (by have := HKC.out; omega)]
          simp [encs, hj]
        · rw [List.getElem?_eq_none (by omega), List.getElem?_eq_none (by simp [encs]; omega)]
      refine Kd.R_of_own ⟨by simp [encs], .inr ⟨w.heap.size, c, cur.toArray, by simp, Nat.le_refl _, hblk, by simp, by unfold maxLen; omega, by simp [hcl], ?_⟩⟩ (fun _ _ => trivial)
      show cur.toArray.toList.take ((List.replicate c v).length * 1) = _
      rw [List.length_replicate, Nat.mul_one]
      refine Eq.trans ?_ ecur
      exact List.take_of_length_le (by simp; omega)


end Go.Proofs.YtmofdldplbplbaaDoor.P
