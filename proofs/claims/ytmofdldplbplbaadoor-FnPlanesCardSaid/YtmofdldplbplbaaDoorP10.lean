-- Printed by a program of this workplace (wip/xp/xp.py) over the kit's print.
import Derived.Test.YtmofdldplbplbaaDoorP0
import Derived.Test.YtmofdldplbplbaaDoorP8
namespace Go.Proofs.YtmofdldplbplbaaDoor.P
open Go.RowKit Go.Proofs.YtmofdldplbplbaaDoorW.PrintWords Go.Proofs.YtmofdldplbplbaaDoorW.PrintLast Go.Proofs.YtmofdldplbplbaaDoorW.PrintMore
attribute [local go_sem] max2_int min2_int max_two min_two max_three min_three max_four min_four   -- for this text's walks alone
set_option linter.unusedVariables false
set_option linter.unusedSimpArgs false

/-! ### impl_points: function 125 -/
def impl_points.renI : Go.Shelf.Ren := ⟨fun | 6 => 170 | n => n, fun | 22 => 24 | 23 => 2 | 25 => 95 | 3 => 3 | 0 => 0 | 4 => 4 | n => n, fun | n => n⟩
theorem impl_points.layI : Go.Proofs.SlLaysH.n6 Tryd.prog impl_points.renI where
  mixed := by kernel_rfl
  f6 := ⟨Tryd.f170.name, by decide, Tryd.func170.trans (congrArg some (by kernel_rfl))⟩
  t0 := Tryd.underlying0
  a0 := Tryd.isAgg0
  z0 := Tryd.sizeOf0
  v0 := Tryd.zeroValue0
  t3 := Tryd.underlying3
  a3 := Tryd.isAgg3
  z3 := Tryd.sizeOf3
  v3 := Tryd.zeroValue3
  t4 := Tryd.underlying4
  a4 := Tryd.isAgg4
  z4 := Tryd.sizeOf4
  v4 := Tryd.zeroValue4
  t22 := Tryd.underlying24
  a22 := Tryd.isAgg24
  z22 := Tryd.sizeOf24
  v22 := Tryd.zeroValue24
  a23 := Tryd.isAgg2
  z23 := Tryd.sizeOf2
  t25 := Tryd.underlying95
  a25 := Tryd.isAgg95
  z25 := Tryd.sizeOf95
  v25 := Tryd.zeroValue95
def impl_points.renD : Go.Shelf.Ren := ⟨fun | 10 => 178 | 6 => 205 | n => n, fun | 22 => 49 | 23 => 24 | 25 => 137 | 3 => 3 | 4 => 4 | 0 => 0 | n => n, fun | n => n⟩
theorem impl_points.layD : Go.Proofs.SlLaysH.n10 Tryd.prog impl_points.renD where
  mixed := by kernel_rfl
  f6 := ⟨Tryd.f205.name, by decide, Tryd.func205.trans (congrArg some (by kernel_rfl))⟩
  f10 := ⟨Tryd.f178.name, by decide, Tryd.func178.trans (congrArg some (by kernel_rfl))⟩
  t0 := Tryd.underlying0
  a0 := Tryd.isAgg0
  z0 := Tryd.sizeOf0
  v0 := Tryd.zeroValue0
  t3 := Tryd.underlying3
  a3 := Tryd.isAgg3
  z3 := Tryd.sizeOf3
  v3 := Tryd.zeroValue3
  t4 := Tryd.underlying4
  a4 := Tryd.isAgg4
  z4 := Tryd.sizeOf4
  v4 := Tryd.zeroValue4
  t22 := Tryd.underlying49
  a22 := Tryd.isAgg49
  z22 := Tryd.sizeOf49
  v22 := Tryd.zeroValue49
  a23 := Tryd.isAgg24
  z23 := Tryd.sizeOf24
  t25 := Tryd.underlying137
  a25 := Tryd.isAgg137
  z25 := Tryd.sizeOf137
  v25 := Tryd.zeroValue137
/-- The place of the first number that is not 0, or -1. -/
def impl_points.first (t : List Int) : Int := Lib.idxBy (fun _ y => y != 0) t 0
/-- It is no point's. -/
def impl_points.del (t : List Int) : Bool := decide (impl_points.first t < 0) || (rd t (impl_points.first t) != 1)
theorem impl_points.first_in (t : List Int) (h : ¬ impl_points.first t < 0) : impl_points.first t < (t.length : Int) := by
  rcases Go.Proofs.idxByFrom_spec (fun _ y => y != 0) (0 : Int) t 0 with ⟨e, _⟩ | ⟨k, hk, e, _⟩
  · exact absurd (show impl_points.first t < 0 by unfold impl_points.first Lib.idxBy; rw [e]; decide) h
  · unfold impl_points.first Lib.idxBy
    rw [e]
    omega
set_option maxHeartbeats 1000000 in
theorem impl_points.inner (x : Int) (W : World) : Go.Proofs.FnGives Tryd.prog 180 #[] #[.int .i64 x] (.bool (x != 0)) W := by
  show Calls Tryd.prog 180 #[.int .i64 x] W _
  go_enter Tryd.func180, Tryd.ntmps180
  go_wp2
  go_ret
  exact ⟨rfl, 0, rfl⟩
theorem impl_points.search (W : World) (xs : List Int) (A : Option Addr) (c : Nat) (hC : (Kd.int .i64).C W A xs.length xs) (hn : xs.length ≤ 9223372036854775807) :
    Calls Tryd.prog 170 #[.slice A xs.length c, .func (.func 180) #[] #[]] W fun e w' => e = .returned (.int .i64 (impl_points.first xs)) ∧ ∃ q, w' = W.drewN q := by
  by_cases h0 : xs = []
  · subst h0
    have hcon := AnyE.slices_IndexFunc_empty impl_points.layI A c (.func (.func 180) #[] #[]) W
    change Calls Tryd.prog 170 _ _ _ at hcon
    refine hcon.mono ?_
    rintro e w' ⟨rfl, rfl⟩
    exact ⟨rfl, 0, rfl⟩
  · have hp : 0 < xs.length := List.length_pos_iff.2 h0
    obtain ⟨ad, rfl, hc0⟩ := Kd.at_int hC 0 (by omega) (by omega)
    have hall : ∀ j : Nat, j < xs.length → W.cell? (ad.add j) = some (.int .i64 (rd xs (j : Int))) := fun j hj => by
      obtain ⟨ad', e, h⟩ := Kd.at_int hC (j : Int) (by omega) (by omega)
      cases e
      exact h
    obtain ⟨b, off, spot⟩ := ad
    have hs : spot = none := by
      cases spot with
      | none => rfl
      | some s =>
        exfalso
        have h1 : W.cell? ⟨b, off, some s⟩ = some (.int .i64 (rd xs 0)) := hc0
        unfold World.cell? at h1
        split at h1 <;> simp at h1
    subst hs
    have hcon := AnyE.slices_IndexFunc impl_points.layI (Value.int .i64) (fun y => y != 0) 180 #[] (enters_of Tryd.func180 (by kernel_rfl) rfl) b off xs.length c xs W (fun W' x _ => impl_points.inner x W') (Nat.le_refl _) hn (fun j hj => by
      have := hall j hj
      rw [show (⟨b, off + j, none⟩ : Addr) = Addr.add ⟨b, off, none⟩ j by unfold Addr.add; split <;> simp_all, this]
      simp [rd, hj])
    change Calls Tryd.prog 170 _ _ _ at hcon
    rw [List.take_length] at hcon
    exact hcon
set_option maxHeartbeats 1000000 in
theorem impl_points.gives (W : World) (xs : List Int) (A : Option Addr) (c : Nat) (hC : (Kd.int .i64).C W A xs.length xs) (hn : xs.length ≤ 9223372036854775807) : Go.Proofs.FnGives Tryd.prog 179 #[] #[.slice A xs.length c] (.bool (impl_points.del xs)) W := by
  show Calls Tryd.prog 179 #[.slice A xs.length c] W _
  have hI := impl_points.search W xs A c hC hn
  cases hi : decide (impl_points.first xs < 0) with
  | true =>
    have hd : impl_points.del xs = true := by unfold impl_points.del; rw [hi]; rfl
    rw [hd]
    generalize impl_points.first xs = i at hI hi
    clear hd hC
    go_enter Tryd.func179, Tryd.ntmps179
    go_wp2_with (go_at_call 170; refine hI.mono ?_; rintro e w' ⟨rfl, q, rfl⟩)
    go_ret
    exact ⟨rfl, q, rfl⟩
  | false =>
    have h0 : ¬ impl_points.first xs < 0 := of_decide_eq_false hi
    have h1 := impl_points.first_in xs h0
    have hd : impl_points.del xs = (rd xs (impl_points.first xs) != 1) := by unfold impl_points.del; rw [hi]; rfl
    rw [hd]
    clear hd
    obtain ⟨ad, rfl, hx⟩ := Kd.at_int hC (impl_points.first xs) (by omega) h1
    generalize impl_points.first xs = i at hI hi h0 h1 hx ⊢
    generalize rd xs i = y at hx ⊢
    clear hC
    have hx' : ∀ q, (W.drewN q).cell? (ad.add i.toNat) = some (.int .i64 y) := fun q => hx
    have p0 : (0 ≤ i) = True := eq_true (by omega)
    have p1 : (i < (xs.length : Int)) = True := eq_true h1
    clear h0 h1 hx
    go_enter Tryd.func179, Tryd.ntmps179
    go_wp2_with (go_at_call 170; refine hI.mono ?_; rintro e w' ⟨rfl, q, rfl⟩; have hxq := hx' q)
    go_ret
    exact ⟨rfl, q, rfl⟩
set_option maxHeartbeats 2000000 in
theorem impl_points.strip (w0 w : World) (ok : Nat → Prop) (v : Value) (xs : List (List Int)) (hB : Below w0.heap.size w0 w) (h : Kd.N (Kd.slice 2 (Kd.int .i64)) 24 w w0.heap.size ok v xs) (hp : 0 < xs.length) (hl : xs.length < 1000000) (hs : ∀ x ∈ xs, x.length ≤ 1000000) :
    Calls Tryd.prog 178 #[v, .func (.func 179) #[] #[]] w fun e w' => ∃ v' : Value, e = .returned v' ∧ Kd.N (Kd.slice 2 (Kd.int .i64)) 24 w' w0.heap.size ok v' (xs.filter fun x => !impl_points.del x) ∧ Below w0.heap.size w0 w' := by
  obtain ⟨h0, rows, hrl, hR, hf⟩ := h
  have hR0 := hR
  obtain ⟨hok, inner, ⟨hin, hown⟩, hr⟩ := hR
  rcases hown with ⟨he, hz⟩ | ⟨g, cap, cur, he, hb, hh, hnc, hcm, hcs, ht⟩
  · omega
  subst he
  have hlt := blk_lt hh
  have hokg : ok g := h0 g rfl
  have hsz : (Kd.raw (Kd.slice 2 (Kd.int .i64)).sz).sz = 1 := rfl
  have hil : inner.length = xs.length := by rw [hin, hrl, hsz, Nat.mul_one]
  -- each row's cell, and what it leads to
  have hfk : ∀ p ∈ xs.zip inner, Kd.FK (Kd.slice 2 (Kd.int .i64)) w (fun k => ok k ∧ k ≠ g) p.1 [p.2] ∧ p.1.length ≤ 1000000 := by
    intro p hp
    obtain ⟨j, hj, rfl⟩ := List.getElem_of_mem hp
    rw [List.length_zip] at hj
    have hjx : j < xs.length := by omega
    have hji : j < inner.length := by omega
    have hrj : rows[j]? = some rows[j] := List.getElem?_eq_getElem (by omega)
    have h1 := hr.2 j _ hrj
    have h2 : rows[j] = [inner[j]] := by
      have h3 : (List.drop (j * 1) inner).take 1 = rows[j] := h1.1
      rw [← h3, Nat.mul_one, List.drop_eq_getElem_cons hji]
      rfl
    have h4 := hf j xs[j] rows[j] (List.getElem?_eq_getElem hjx) hrj
    rw [h2] at h4
    rw [List.getElem_zip]
    exact ⟨Kd.FK_mono h4 (fun k hk => ⟨hk.1, fun e => hk.2 (by rw [e]; rfl)⟩), hs _ (List.getElem_mem hjx)⟩
  let α := { p : List Int × Value // Kd.FK (Kd.slice 2 (Kd.int .i64)) w (fun k => ok k ∧ k ≠ g) p.1 [p.2] ∧ p.1.length ≤ 1000000 }
  let D : List α := (xs.zip inner).pmap (fun p hp => ⟨p, hp⟩) hfk
  let enc : α → Value := fun a => a.1.2
  have hDl : D.length = xs.length := by simp only [D, List.length_pmap, List.length_zip]; omega
  have hD1 : D.map (fun a => a.1.1) = xs := by
    apply List.ext_getElem
    · rw [List.length_map, hDl]
    · intro j h1 h2
      simp [D]
  have hD2 : ∀ j (hj : j < D.length), enc D[j] = inner[j]'(by omega) := fun j hj => by simp [D, enc]
  obtain ⟨x0, hx0⟩ : ∃ a : α, a ∈ D := ⟨D[0]'(by omega), List.getElem_mem _⟩
  let zr : α := ⟨([], .slice none 0 0), Kd.FK_slice_mk (Nat.le_refl _) (fun _ _ => Kd.C_nil _ _), by simp⟩
  haveI : Inhabited α := ⟨zr⟩
  have hgv : ∀ (W : World) (a : α), (∀ k, k ≠ g → k < w.heap.size → W.heap[k]? = w.heap[k]?) → Go.Proofs.FnGives Tryd.prog 179 #[] #[enc a] (.bool (impl_points.del a.1.1)) W := by
    rintro W ⟨⟨xs', u⟩, hk, hlen⟩ hW
    obtain ⟨A, c, hu, hc, hC⟩ := Kd.FK_now (Kd.FK_step hk (fun k hk hlt => hW k hk.2 hlt))
    have hu' : u = .slice A xs'.length c := by simpa using hu
    show Go.Proofs.FnGives Tryd.prog 179 #[] #[u] (.bool (impl_points.del xs')) W
    rw [hu']
    exact impl_points.gives W xs' A c hC (by simp only at hlen; omega)
  have hcell : ∀ j (hj : j < D.length), w.cell? ⟨g, j, none⟩ = some (enc D[j]) := fun j hj => by
    have h1 : w.cell? ⟨g, j, none⟩ = cur[j]? := cell_of_row w g j cur _ _ hh
    rw [h1, hD2 j hj]
    have h2 : cur.toList.take (rows.length * 1) = inner := ht
    have h3 : inner[j]'(by omega) = cur.toList[j]'(by
        have : inner.length ≤ cur.toList.length := by rw [← h2, List.length_take]; exact Nat.min_le_right _ _
        omega) := by
      simp [← h2]
    rw [h3]
    have h4 : j < cur.size := by
      have : inner.length ≤ cur.toList.length := by rw [← h2, List.length_take]; exact Nat.min_le_right _ _
      simp at this
      omega
    simp [h4]
  have hH : Go.Sort.Holds enc w g 0 D.toArray := by
    intro j hj
    have hj' : j < D.length := by simpa using hj
    refine ⟨?_, by simp [World.frozen?, hh]⟩
    simp only [Nat.zero_add]
    rw [hcell j hj']
    simp [hj']
  have hcon := AnyE.slices_DeleteFunc impl_points.layD enc (fun a => by
      obtain ⟨⟨xs', u⟩, hk, hlen⟩ := a
      obtain ⟨A, c, hu, hc, hC⟩ := Kd.FK_now hk
      have hu' : u = .slice A xs'.length c := by simpa using hu
      show u.oneCell' = true
      rw [hu']
      rfl) (fun a => impl_points.del a.1.1) 179 #[] (enters_of Tryd.func179 (by kernel_rfl) rfl) zr Tryd.zeroValue24 g 0 cap D.toArray w
    (fun W a hb => hgv W a (fun k _ hk => hb.block k hk))
    (fun n os dk a hd => hgv _ a (fun k hk hlt' => by
      show ((w.heap.modify g (Go.Sort.onCells (Go.Sort.putCells enc 0 dk))) ++ os)[k]? = _
      rw [Array.getElem?_append_left (by simpa using hlt'), Array.getElem?_modify, if_neg (Ne.symm hk)]))
    hH (by simp; omega) (by simp; omega)
  change Calls Tryd.prog 178 _ _ _ at hcon
  rw [show D.toArray.size = rows.length by simp; omega] at hcon
  refine hcon.mono ?_
  rintro e w' ⟨rfl, n, rfl⟩
  have hF1 : (D.filter fun a => !impl_points.del a.1.1).map (fun a => a.1.1) = xs.filter fun x => !impl_points.del x := by
    rw [← hD1, List.filter_map]
    rfl
  have hF2 : (D.filter fun a => !impl_points.del a.1.1).length ≤ rows.length := by
    rw [hrl, ← hDl]
    exact List.length_filter_le _ _
  generalize hE : (D.filter fun a => !impl_points.del a.1.1) = E at hF1 hF2 hcon ⊢
  have hFl : E.length = (xs.filter fun x => !impl_points.del x).length := by rw [← hF1, List.length_map]
  have hm2 : (E ++ List.replicate (rows.length - E.length) zr).length = rows.length := by simp; omega
  generalize List.replicate (rows.length - E.length) zr = m at hm2 ⊢
  have far : ∀ k, k < w.heap.size → k ≠ g → (Go.Sort.putRow enc (Go.Sort.ahead w n) g 0 (E ++ m).toArray).heap[k]? = w.heap[k]? := by
    intro k hk hne
    show (w.heap.modify g (Go.Sort.onCells (Go.Sort.putCells enc 0 (E ++ m).toArray)))[k]? = _
    rw [Array.getElem?_modify, if_neg (Ne.symm hne)]
  have own : (Go.Sort.putRow enc (Go.Sort.ahead w n) g 0 (E ++ m).toArray).heap[g]? = some (.cells (Go.Sort.putCells enc 0 (E ++ m).toArray cur) 24 (0, 0)) := by
    show (w.heap.modify g (Go.Sort.onCells (Go.Sort.putCells enc 0 (E ++ m).toArray)))[g]? = _
    rw [Array.getElem?_modify, if_pos rfl, hh]
    rfl
  have size : w.heap.size ≤ (Go.Sort.putRow enc (Go.Sort.ahead w n) g 0 (E ++ m).toArray).heap.size := by
    simp [Go.Sort.putRow, Go.Sort.mapBlock, Go.Sort.ahead]
  have hc : (E ++ m).length ≤ cur.size := by rw [hcs, hm2, hsz]; omega
  have hc2 : (Go.Sort.putCells enc 0 (E ++ m).toArray cur).size = cur.size := by simp [Go.Sort.putCells]
  have htk : (Go.Sort.putCells enc 0 (E ++ m).toArray cur).toList.take E.length = E.map enc := by
    rw [List.length_append] at hc
    apply List.ext_getElem
    · simp [Go.Sort.putCells]
      omega
    · intro i h1 h2
      have hi : i < E.length := by simpa using h2
      simp [Go.Sort.putCells]
      rw [if_pos (by omega), List.getElem?_append_left hi]
      simp [hi]
  have hone : ∀ a : α, (enc a).oneCell' = true := fun a => by
    obtain ⟨⟨xs', u⟩, hk, hlen⟩ := a
    obtain ⟨A, c, hu, hc, hC⟩ := Kd.FK_now hk
    have hu' : u = .slice A xs'.length c := by simpa using hu
    show u.oneCell' = true
    rw [hu']
    rfl
  refine ⟨_, rfl, ⟨fun k hk => by have : g = k := by simpa [Value.ownBlock] using hk
                                  exact this ▸ hokg, E.map (fun a => [enc a]), by rw [List.length_map, hFl], ⟨fun k hk => hk.symm, E.map enc, ⟨?_, .inr ⟨g, cap, _, by rw [List.length_map], hb, own, by rw [List.length_map]; omega, hcm, by rw [hc2]; exact hcs, ?_⟩⟩, ?_⟩, ?_⟩, ?_⟩
  · rw [List.length_map, List.length_map, hsz, Nat.mul_one]
  · rw [List.length_map, hsz, Nat.mul_one]; exact htk
  · refine ⟨by rw [List.length_map, List.length_map, hsz, Nat.mul_one], fun j p hj => ?_⟩
    rw [List.getElem?_map] at hj
    obtain ⟨a, ha, rfl⟩ := Option.map_eq_some_iff.1 hj
    obtain ⟨hjl, rfl⟩ := List.getElem?_eq_some_iff.1 ha
    have h5 : List.take 1 (List.drop (j * 1) (List.map enc E)) = [enc E[j]] := by
      rw [Nat.mul_one, List.drop_eq_getElem_cons (by simpa using hjl)]
      simp
    exact ⟨h5, by rw [hsz]; exact congrArg List.length h5, fun u hu => by
      have h6 : u ∈ [enc E[j]] := h5 ▸ hu
      rw [List.mem_singleton.1 h6]
      exact hone _⟩
  · intro j x c hx hc'
    rw [← hF1, List.getElem?_map] at hx
    rw [List.getElem?_map] at hc'
    obtain ⟨a, ha, rfl⟩ := Option.map_eq_some_iff.1 hx
    rw [ha] at hc'
    obtain rfl : [enc a] = c := by simpa using hc'
    exact Kd.FK_mono (Kd.FK_step a.2.1 (fun k hk hlt' => far k hlt' hk.2)) (fun k hk => ⟨hk.1, fun e_ => hk.2 (by simpa [Value.ownBlock] using e_)⟩)
  · exact ⟨hB.os, hB.tape, hB.output, Nat.le_trans hB.size size, fun k hk => (far k (Nat.lt_of_lt_of_le hk hB.size) (by omega)).trans (hB.block k hk)⟩
def impl_points.f (k : Nat) (a0 : Int) : Option (List (List Int)) := (impl_tuples.f k 3 a0).bind fun t => if 0 < t.length then (if t.length < 1000000 then (if (t.all fun x => decide (x.length ≤ 1000000)) = true then some (t.filter fun x => !impl_points.del x) else none) else none) else none
set_option maxHeartbeats 2000000 in
theorem impl_points.calls (k : Nat) (a0 : Int) (r : List (List Int)) (w : World) (h : impl_points.f k a0 = some r) :
    Calls Tryd.prog 125 #[.int .i64 a0] w fun e w' => ∃ v0_ : Value, e = .returned v0_ ∧ Kd.N (Kd.slice 2 (Kd.int .i64)) 24 w' w.heap.size (fun k_ => w.heap.size ≤ k_) v0_ r ∧ Below w.heap.size w w' := by
  unfold impl_points.f at h
  obtain ⟨t, A1, h⟩ := Option.bind_eq_some_iff.mp h
  split at h
  case isFalse => cases h
  case isTrue p0 =>
  split at h
  case isFalse => cases h
  case isTrue p1 =>
  split at h
  case isFalse => cases h
  case isTrue p2 =>
  obtain rfl := Option.some.inj h
  have HP0 := Aside0.mk p0
  have HP1 := Aside0.mk p1
  have HP2 := Aside0.mk p2
  have HA1 := Aside0.mk A1
  clear h p0 p1 p2 A1
  go_enter Tryd.func125, Tryd.ntmps125
  go_wp2_with fail
  refine (impl_tuples.calls k 3 a0 t _ HA1.out).mono ?_
  rintro e w2 ⟨v0, rfl, hN, hb⟩
  have HN := Aside0.mk hN
  have HB := Aside0.mk hb
  clear hN hb
  go_wp2_with fail
  refine (impl_points.strip w w2 _ v0 t HB.out HN.out HP0.out HP1.out (fun x hx => of_decide_eq_true (List.all_eq_true.1 HP2.out x hx))).mono ?_
  rintro e w3 ⟨v1, rfl, hN, hb⟩
  have HN3 := Aside0.mk hN
  have HB3 := Aside0.mk hb
  clear hN hb
  go_wp2
  go_ret
  exact ⟨_, rfl, HN3.out, HB3.out⟩

end Go.Proofs.YtmofdldplbplbaaDoor.P
