/- The reference's test of a range. -/
import Derived.Test.YtanhfejpdhneiaaP1
import Derived.Test.YtanhfejpdhneiaaQCore
namespace Go.Proofs.Ytanhfejpdhneiaa.Q
open Go Go.RowKit Go.Proofs.Ytanhfejpdhneiaa.P
theorem s_in (a b c : Int) : spec_l01In.f a b c = some (decide (b ≤ a ∧ a ≤ c)) := by
  unfold spec_l01In.f
  split
  · exact congrArg some (decide_eq_decide.2 (by omega))
  · exact congrArg some (decide_eq_false (by omega)).symm
end Go.Proofs.Ytanhfejpdhneiaa.Q
