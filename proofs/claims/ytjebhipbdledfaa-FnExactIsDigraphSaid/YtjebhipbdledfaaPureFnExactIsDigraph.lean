/- The program's IsDigraph returns what the reference's returns, for every pair of a size and rows (of at most 2^20 rows: to more the law itself says yes); the rows are left as they were. -/
import Derived.Test.YtjebhipbdledfaaP15
import Derived.Test.YtjebhipbdledfaaP9
import Derived.Test.YtjebhipbdledfaaQDiFn
import Derived.Test.YtjebhipbdledfaaQLawG
namespace Go.Proofs.Ytjebhipbdledfaa.Pure
open Go Go.RowKit Go.Proofs.Ytjebhipbdledfaa.P Go.Proofs.YtjebhipbdledfaaW.PrintWords Go.Proofs.YtjebhipbdledfaaW.PrintLast Go.Proofs.Ytjebhipbdledfaa.Q
theorem FnExactIsDigraph : ∀ (a0_0 : Int) (l0_1 : List Int), (Lit.int .i64 a0_0).wf = true → l0_1.length ≤ maxLen → (∀ x ∈ l0_1, (Lit.int .i64 x).wf = true) → ∃ k, laws_FnExactIsDigraph.f k a0_0 l0_1 = some true := by
  intro n l _ hl _
  refine Ev.rounds ?_
  unfold laws_FnExactIsDigraph.f
  rw [szD n l hl]
  simp only [Option.bind_some]
  by_cases hs : l.length ≤ 1048576
  · rw [if_pos hs]
    refine ev_neg (by omega) (Ev.bind (toD n l hs) ?_)
    have fin : ∀ b : Bool, Ev (fun k => spec_IsDigraph.f k n l) b → impl_IsDigraph.f n l = some b → Ev (fun k => (spec_IsDigraph.f k n l).bind fun t => (laws_toDigraph.f k n l).bind fun bt => (impl_IsDigraph.f bt.1 bt.2).bind fun t' => if (t' != t) = true then some false else (laws_toDigraph.f k n l).bind fun bt' => (laws_eqDigraph.f k bt.1 bt.2 bt'.1 bt'.2).bind fun t'' => if t'' = true then some true else some false) true := by
      intro b h1 h2
      refine Ev.bind h1 (Ev.bind (toD n l hs) (ev_bind0 h2 (ev_neg (by simp) (Ev.bind (toD n l hs) (Ev.bind (eqD n l hs) (ev_pos rfl (Ev.now _)))))))
    by_cases h : rows n l
    · refine fin true ?_ (i_di_yes h)
      unfold spec_IsDigraph.f
      exact Ev.bind ((s_di n l).yes h) (Ev.now _)
    · refine fin false ?_ (i_di_no h)
      unfold spec_IsDigraph.f
      exact Ev.bind ((s_di n l).no h) (Ev.now _)
  · rw [if_neg hs]
    exact ev_pos (by decide) (Ev.now _)
end Go.Proofs.Ytjebhipbdledfaa.Pure
