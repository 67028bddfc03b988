/- The two tests of a range, as one truth value. No condition. -/
import Derived.Test.YtogndjjoeahccaaQ2
import Derived.Test.YtogndjjoeahccaaQ8
import Derived.Test.YtogndjjoeahccaaNum
import Derived.Test.YtogndjjoeahccaaInS
namespace Go.Proofs.Ytogndjjoeahccaa.Q
open Go.RowKit Go.Proofs.YtogndjjoeahccaaW.PrintWords
theorem within_eq (a b c : Int) : impl_within.f a b c = some (decide (b ≤ a ∧ a ≤ c)) := by unfold impl_within.f; split <;> simp [*] <;> omega
end Go.Proofs.Ytogndjjoeahccaa.Q
