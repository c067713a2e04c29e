/- What the laws' own functions on graphs and digraphs come to. -/
import Derived.Test.YtcffgfomicpbfaaP11
import Derived.Test.YtcffgfomicpbfaaP2
import Derived.Test.YtcffgfomicpbfaaP3
import Derived.Test.YtcffgfomicpbfaaQLawFn
namespace Go.Proofs.Ytcffgfomicpbfaa.Q
open Go Go.RowKit Go.Proofs.Ytcffgfomicpbfaa.P Go.Proofs.YtcffgfomicpbfaaW.PrintWords Go.Proofs.YtcffgfomicpbfaaW.PrintMore
theorem szD (n : Int) (l : List Int) (hl : l.length ≤ maxLen) : laws_szDigraph.f n l 1048576 = some (if l.length ≤ 1048576 then 1048576 - (l.length : Int) else -1) := by
  unfold laws_szDigraph.f
  rw [szS l hl]
  simp only [Option.bind_some]
  by_cases h : l.length ≤ 1048576
  · rw [if_pos h, if_neg (by omega)]
  · rw [if_neg h, if_pos (by decide)]
theorem toD (n : Int) (l : List Int) (hl : l.length ≤ 1048576) : Ev (fun m => laws_toDigraph.f m n l) (n, l) := by
  unfold laws_toDigraph.f
  exact Ev.bind (toS l (by omega)) (Ev.now _)
theorem eqD (n : Int) (l : List Int) (hl : l.length ≤ 1048576) : Ev (fun m => laws_eqDigraph.f m n l n l) true := by
  unfold laws_eqDigraph.f
  exact ev_pos rfl (Ev.bind (eqS_self l (by omega)) (ev_pos rfl (Ev.now _)))
end Go.Proofs.Ytcffgfomicpbfaa.Q
