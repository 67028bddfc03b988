/- The two tests of a range, as one truth value. No condition. -/
import Derived.Test.YtogndjjoeahccaaDoorQ2
import Derived.Test.YtogndjjoeahccaaDoorQ9
import Derived.Test.YtogndjjoeahccaaDoorNum
import Derived.Test.YtogndjjoeahccaaDoorInS
namespace Go.Proofs.YtogndjjoeahccaaDoor.Q
open Go.RowKit Go.Proofs.YtogndjjoeahccaaDoorW.PrintWords
theorem within_eq (a b c : Int) : impl_within.f a b c = some (decide (b ≤ a ∧ a ≤ c)) := by unfold impl_within.f; split <;> simp [*] <;> omega
end Go.Proofs.YtogndjjoeahccaaDoor.Q
