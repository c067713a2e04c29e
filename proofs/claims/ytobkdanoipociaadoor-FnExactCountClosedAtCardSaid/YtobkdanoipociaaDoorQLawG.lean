/- What the laws' own functions on graphs and digraphs come to. -/
import Derived.Test.YtobkdanoipociaaDoorP1
import Derived.Test.YtobkdanoipociaaDoorP13
import Derived.Test.YtobkdanoipociaaDoorP15
import Derived.Test.YtobkdanoipociaaDoorP19
import Derived.Test.YtobkdanoipociaaDoorP23
import Derived.Test.YtobkdanoipociaaDoorP31
import Derived.Test.YtobkdanoipociaaDoorP37
import Derived.Test.YtobkdanoipociaaDoorP46
import Derived.Test.YtobkdanoipociaaDoorP6
import Derived.Test.YtobkdanoipociaaDoorQLawFn
namespace Go.Proofs.YtobkdanoipociaaDoor.Q
open Go Go.RowKit Go.Proofs.YtobkdanoipociaaDoor.P Go.Proofs.YtobkdanoipociaaDoorW.PrintWords Go.Proofs.YtobkdanoipociaaDoorW.PrintMore
theorem szG (n : Int) (l : List Int) (hl : l.length ≤ maxLen) : laws_szGraph.f n l 1048576 = some (if l.length ≤ 1048576 then 1048576 - (l.length : Int) else -1) := by
  unfold laws_szGraph.f
  rw [szS l hl]
  simp only [Option.bind_some]
  by_cases h : l.length ≤ 1048576
  · rw [if_pos h, if_neg (by omega)]
  · rw [if_neg h, if_pos (by decide)]
theorem toG (n : Int) (l : List Int) (hl : l.length ≤ 1048576) : Ev (fun m => laws_toGraph.f m n l) (n, l) := by
  unfold laws_toGraph.f
  exact Ev.bind (toS l (by omega)) (Ev.now _)
theorem eqG (n : Int) (l : List Int) (hl : l.length ≤ 1048576) : Ev (fun m => laws_eqGraph.f m n l n l) true := by
  unfold laws_eqGraph.f
  exact ev_pos rfl (Ev.bind (eqS_self l (by omega)) (ev_pos rfl (Ev.now _)))
theorem markG (n : Int) (l : List Int) (hl : l.length ≤ 1048576) : Ev (fun m => laws_markGraph.f m n l 1) (1 + (l.length : Int), marks 1 l.length) := by
  unfold laws_markGraph.f
  exact Ev.bind (markS l 1 (by omega) (by omega)) (Ev.now _)
theorem heldG (n : Int) (j : Nat) (hl : j ≤ 1048576) : Ev (fun m => laws_heldGraph.f m n (marks 1 j) 1) (1 + (j : Int)) := by
  unfold laws_heldGraph.f
  exact Ev.bind (heldS j 1 (by omega) (by omega)) (ev_neg (by omega) (Ev.now _))
theorem szD (n : Int) (l : List Int) (hl : l.length ≤ maxLen) : laws_szDigraph.f n l 1048576 = some (if l.length ≤ 1048576 then 1048576 - (l.length : Int) else -1) := by
  unfold laws_szDigraph.f
  rw [szS l hl]
  simp only [Option.bind_some]
  by_cases h : l.length ≤ 1048576
  · rw [if_pos h, if_neg (by omega)]
  · rw [if_neg h, if_pos (by decide)]
theorem toD (n : Int) (l : List Int) (hl : l.length ≤ 1048576) : Ev (fun m => laws_toDigraph.f m n l) (n, l) := by
  unfold laws_toDigraph.f
  exact Ev.bind (toS l (by omega)) (Ev.now _)
theorem eqD (n : Int) (l : List Int) (hl : l.length ≤ 1048576) : Ev (fun m => laws_eqDigraph.f m n l n l) true := by
  unfold laws_eqDigraph.f
  exact ev_pos rfl (Ev.bind (eqS_self l (by omega)) (ev_pos rfl (Ev.now _)))
theorem markD (n : Int) (l : List Int) (hl : l.length ≤ 1048576) : Ev (fun m => laws_markDigraph.f m n l 1) (1 + (l.length : Int), marks 1 l.length) := by
  unfold laws_markDigraph.f
  exact Ev.bind (markS l 1 (by omega) (by omega)) (Ev.now _)
theorem heldD (n : Int) (j : Nat) (hl : j ≤ 1048576) : Ev (fun m => laws_heldDigraph.f m n (marks 1 j) 1) (1 + (j : Int)) := by
  unfold laws_heldDigraph.f
  exact Ev.bind (heldS j 1 (by omega) (by omega)) (ev_neg (by omega) (Ev.now _))
end Go.Proofs.YtobkdanoipociaaDoor.Q
