/- The pure law and what it leans on, in one text (wip/bin/bundle). -/
import Derived.Test.YtmofdldplbplbaaDoorP1
import Derived.Test.YtmofdldplbplbaaDoorP13
import Derived.Test.YtmofdldplbplbaaDoorP18
import Derived.Test.YtmofdldplbplbaaDoorP19
import Derived.Test.YtmofdldplbplbaaDoorP47
import Derived.Test.YtmofdldplbplbaaDoorP5
import Derived.Test.YtmofdldplbplbaaDoorP6
import Derived.Test.YtmofdldplbplbaaDoorP4
import Derived.Test.YtmofdldplbplbaaDoorWA
import Derived.Test.YtmofdldplbplbaaDoorWBMore
import Derived.Laws.BitsLemmas
namespace Go.Proofs.YtmofdldplbplbaaDoor.Q
open Go Go.RowKit Go.Proofs.YtmofdldplbplbaaDoorW.PrintWords Go.Proofs.YtmofdldplbplbaaDoorW.PrintMore
theorem w64 {a : Int} (h0 : -9223372036854775808 ≤ a) (h1 : a < 9223372036854775808) : wrap64 a = a := by
  unfold wrap64
  omega
end Go.Proofs.YtmofdldplbplbaaDoor.Q
namespace Go.Proofs.YtmofdldplbplbaaDoor.Q
open Go Go.RowKit Go.Proofs.YtmofdldplbplbaaDoorW.PrintWords Go.Proofs.YtmofdldplbplbaaDoorW.PrintLast Go.Proofs.YtmofdldplbplbaaDoorW.PrintMore
theorem wu64 {a : Int} (h0 : 0 ≤ a) (h1 : a < 18446744073709551616) : IntKind.u64.wrap a = a := by
  simp [IntKind.wrap, IntKind.bits, IntKind.signed]
  omega
theorem uand_nat (a b : Nat) (ha : a < 2 ^ 64) (hb : b < 2 ^ 64) : bits .and .u64 a b = ((a &&& b : Nat) : Int) :=
  (bits_nat .u64 64 (by decide) (fun n h0 h1 => wu64 h0 (by omega)) a b ha hb).1
end Go.Proofs.YtmofdldplbplbaaDoor.Q
namespace Go.Proofs.YtmofdldplbplbaaDoor.Q
open Go Go.RowKit Go.Proofs.YtmofdldplbplbaaDoor.P Go.Proofs.YtmofdldplbplbaaDoorW.PrintWords Go.Proofs.YtmofdldplbplbaaDoorW.PrintMore
theorem u_wrap (x : Int) : 0 ≤ IntKind.u64.wrap x ∧ IntKind.u64.wrap x < 18446744073709551616 := by
  simp [IntKind.wrap, IntKind.bits, IntKind.signed]
  omega
def Codes (l : List Int) : Prop := l.length ≤ 4096 ∧ ∀ x ∈ l, 0 ≤ x ∧ x < 256
theorem code_at {l : List Int} (h : Codes l) (i : Int) : 0 ≤ rd l i ∧ rd l i < 256 := by
  by_cases hi : i.toNat < l.length
  · have : rd l i = l[i.toNat] := by simp [rd, List.getD_eq_getElem?_getD, List.getElem?_eq_getElem hi]
    rw [this]
    exact h.2 _ (List.getElem_mem _)
  · have : rd l i = 0 := by simp [rd, List.getD_eq_getElem?_getD, List.getElem?_eq_none (Nat.le_of_not_lt hi)]
    omega
def At (l : List Int) (a : Int) : Prop := 0 ≤ a ∧ a ≤ l.length
theorem mask_in (x : Int) : 0 ≤ bits .and .u64 (IntKind.u64.wrap x / 8589934592) 16777215 ∧ bits .and .u64 (IntKind.u64.wrap x / 8589934592) 16777215 ≤ 16777215 := by
  obtain ⟨a, b⟩ := u_wrap x
  obtain ⟨y, hy⟩ : ∃ y : Nat, IntKind.u64.wrap x / 8589934592 = (y : Int) := ⟨(IntKind.u64.wrap x / 8589934592).toNat, by omega⟩
  rw [hy]
  have := uand_nat y 16777215 (by omega) (by decide)
  rw [show ((16777215 : Nat) : Int) = 16777215 from rfl] at this
  rw [this]
  have h2 : y &&& 16777215 ≤ 16777215 := Nat.and_le_right
  omega
theorem next_in {l : List Int} (hl : Codes l) {a : Int} (ha : At l a) (h n : Int) (n1 : n < 9223372036854775808) : ∃ x a' h', spec_l01Next.f l a h n = some (x, a', h') ∧ At l a' ∧ 0 ≤ x ∧ (1 ≤ n → x < n) ∧ (n < 1 → x = 0) := by
  unfold spec_l01Next.f
  have hlen := hl.1
  obtain ⟨m0, m1⟩ := mask_in (IntKind.u64.wrap (h * 6364136223846793005) + 1442695040888963407)
  by_cases hn : n < 1
  · rw [if_pos hn]
    exact ⟨0, a, h, rfl, ha, by omega, by omega, fun _ => rfl⟩
  rw [if_neg hn]
  have key : ∀ y : Int, 0 ≤ y → 0 ≤ Int.tmod y n ∧ Int.tmod y n < n := fun y hy => by
    rw [Int.tmod_eq_emod_of_nonneg hy]
    exact ⟨Int.emod_nonneg _ (by omega), Int.emod_lt_of_pos _ (by omega)⟩
  by_cases h1 : a < (l.length : Int)
  · rw [if_pos h1, if_pos ha.1, if_neg (by omega)]
    obtain ⟨r0, r1⟩ := code_at hl a
    rw [w64 (a := bits .and .u64 _ _) (by omega) (by omega), w64 (a := rd l a) (by omega) (by omega), w64 (a := bits .and .u64 _ _ + rd l a) (by omega) (by omega), w64 (a := a + 1) (by have := ha.1; omega) (by omega)]
    obtain ⟨k0, k1⟩ := key (bits .and .u64 (IntKind.u64.wrap (IntKind.u64.wrap (h * 6364136223846793005) + 1442695040888963407) / 8589934592) 16777215 + rd l a) (by omega)
    exact ⟨_, _, _, rfl, ⟨by have := ha.1; omega, by omega⟩, k0, fun _ => k1, fun q => absurd q hn⟩
  · rw [if_neg h1, if_neg (by omega)]
    rw [w64 (a := bits .and .u64 _ _) (by omega) (by omega)]
    obtain ⟨k0, k1⟩ := key (bits .and .u64 (IntKind.u64.wrap (IntKind.u64.wrap (h * 6364136223846793005) + 1442695040888963407) / 8589934592) 16777215) (by omega)
    exact ⟨_, _, _, rfl, ha, k0, fun _ => k1, fun q => absurd q hn⟩
theorem pick_in {l : List Int} (hl : Codes l) {a : Int} (ha : At l a) (h : Int) (xs : List Int) (x0 : 0 < xs.length) (x1 : xs.length ≤ 1000) : ∃ x a' h', spec_l01Pick.f l a h xs = some (x, a', h') ∧ At l a' ∧ x ∈ xs := by
  obtain ⟨i, a', h', e, ha', i0, i1, _⟩ := next_in hl ha h (xs.length : Int) (by omega)
  have i1 := i1 (by omega)
  refine ⟨rd xs i, a', h', ?_, ha', ?_⟩
  · unfold spec_l01Pick.f
    rw [e]
    simp only [Option.bind_some]
    rw [if_pos i0, if_pos i1]
  · have hi : i.toNat < xs.length := by omega
    have : rd xs i = xs[i.toNat] := by simp [rd, List.getD_eq_getElem?_getD, List.getElem?_eq_getElem hi]
    rw [this]
    exact List.getElem_mem _
theorem from_in {l : List Int} (hl : Codes l) (k : Nat) (hk : l.length < k) : ∃ h, spec_l01From.f k l = some (l, 0, h) := by
  have loop : ∀ (d k : Nat) (i h : Int), 0 ≤ i → i + d = l.length → d < k → ∃ h', spec_l01From.l0 k l i l 0 h = some (l, 0, h') := by
    intro d
    induction d with
    | zero =>
      intro k i h i0 hi hk
      obtain ⟨k, rfl⟩ : ∃ m, k = m + 1 := ⟨k - 1, by omega⟩
      simp only [spec_l01From.l0]
      rw [if_neg (by omega)]
      exact ⟨_, rfl⟩
    | succ d ih =>
      intro k i h i0 hi hk
      obtain ⟨k, rfl⟩ : ∃ m, k = m + 1 := ⟨k - 1, by omega⟩
      have := hl.1
      simp only [spec_l01From.l0]
      rw [if_pos (by omega), if_pos (by omega), if_pos i0, w64 (a := i + 1) (by omega) (by omega)]
      exact ih k (i + 1) _ (by omega) (by omega) (by omega)
  unfold spec_l01From.f
  exact loop l.length k 0 _ (by omega) (by omega) hk
theorem bytes_of {l : List Int} (h : ∀ x ∈ l, (Lit.int .u8 x).wf = true) : ∀ x ∈ l, 0 ≤ x ∧ x < 256 := fun x hx => by
  have := h x hx
  simp [Lit.wf, IntKind.min, IntKind.max, IntKind.signed, IntKind.bits] at this
  omega
end Go.Proofs.YtmofdldplbplbaaDoor.Q
namespace Go.Proofs.YtmofdldplbplbaaDoor.Pure
open Go Go.RowKit Go.Proofs.YtmofdldplbplbaaDoor.P Go.Proofs.YtmofdldplbplbaaDoorW.PrintWords Go.Proofs.YtmofdldplbplbaaDoorW.PrintLast Go.Proofs.YtmofdldplbplbaaDoorW.PrintMore Go.Proofs.YtmofdldplbplbaaDoor.Q
def behind (k : Nat) (q : Int) : Option Bool := (impl_PlaneGraph.f k q).bind fun bt391 => ((spec_PlaneGraph.f k q).bind fun bt397 => (if bt391.2.2 = bt397.2.2 then ((laws_graph9.f k bt391.1 bt391.2.1 bt397.1 bt397.2.1).bind fun t403 => (laws_FnPlanes.j0 k q bt391.2.2 (!t403) bt391.1 bt391.2.1)) else (laws_FnPlanes.j0 k q bt391.2.2 true bt391.1 bt391.2.1)))
set_option maxRecDepth 1000000
theorem at0 : behind 5000 0 = some true := by decide +kernel
theorem at1 : behind 5000 1 = some true := by decide +kernel
theorem at2 : behind 5000 2 = some true := by decide +kernel
theorem at3 : behind 5000 3 = some true := by decide +kernel
theorem at4 : behind 5000 4 = some true := by decide +kernel
theorem at5 : behind 5000 5 = some true := by decide +kernel
theorem at6 : behind 5000 6 = some true := by decide +kernel
theorem at7 : behind 5000 7 = some true := by decide +kernel
theorem at8 : behind 5000 8 = some true := by decide +kernel
theorem at9 : behind 5000 9 = some true := by decide +kernel
theorem at10 : behind 5000 10 = some true := by decide +kernel
theorem at11 : behind 5000 11 = some true := by decide +kernel
theorem drawn {l : List Int} (hl : Codes l) : ∃ q, spec_DrawPlaneGraph.f 5000 l = some q ∧ 0 ≤ q ∧ q ≤ 11 := by
  obtain ⟨h, e⟩ := from_in hl 5000 (by have := hl.1; omega)
  obtain ⟨x, a1, h1, e1, p1, x0, x1, _⟩ := next_in hl (a := 0) ⟨by omega, by omega⟩ h 12 (by omega)
  obtain ⟨q, a2, h2, e2, _, hq⟩ := pick_in hl p1 h1 [2, 2, 3, 3, 5, 7, x] (by simp) (by simp)
  refine ⟨q, ?_, ?_⟩
  · unfold spec_DrawPlaneGraph.f spec_l04Draw.f
    rw [e]
    simp only [Option.bind_some]
    rw [e1]
    simp only [Option.bind_some]
    rw [e2]
    rfl
  · simp only [List.mem_cons, List.not_mem_nil, or_false] at hq
    omega
theorem FnPlanes : ∀ (l0 : List Int), l0.length ≤ maxLen → (∀ x ∈ l0, (Lit.int .u8 x).wf = true) → ∃ k, laws_FnPlanes.f k l0 = some true := by
  intro l _ hb
  refine ⟨5000, ?_⟩
  unfold laws_FnPlanes.f laws_big.f
  simp only [Option.bind_some]
  by_cases h : (l.length : Int) > 4096
  · rw [if_pos (decide_eq_true h)]
  · rw [if_neg (by simpa using h)]
    obtain ⟨q, e, q0, q1⟩ := drawn (l := l) ⟨by omega, bytes_of hb⟩
    rw [e]
    simp only [Option.bind_some]
    have key : behind 5000 q = some true := by
      rcases (by omega : q = 0 ∨ q = 1 ∨ q = 2 ∨ q = 3 ∨ q = 4 ∨ q = 5 ∨ q = 6 ∨ q = 7 ∨ q = 8 ∨ q = 9 ∨ q = 10 ∨ q = 11) with rfl | rfl | rfl | rfl | rfl | rfl | rfl | rfl | rfl | rfl | rfl | rfl
      · exact at0
      · exact at1
      · exact at2
      · exact at3
      · exact at4
      · exact at5
      · exact at6
      · exact at7
      · exact at8
      · exact at9
      · exact at10
      · exact at11
    exact key
end Go.Proofs.YtmofdldplbplbaaDoor.Pure
