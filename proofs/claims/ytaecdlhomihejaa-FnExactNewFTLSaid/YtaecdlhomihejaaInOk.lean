/- The two tests of a range, as one truth value. No condition. -/
import Derived.Test.YtaecdlhomihejaaQ3
import Derived.Test.YtaecdlhomihejaaQ6
import Derived.Test.YtaecdlhomihejaaNum
import Derived.Test.YtaecdlhomihejaaInS
namespace Go.Proofs.Ytaecdlhomihejaa.Q
open Go.RowKit Go.Proofs.YtaecdlhomihejaaW.PrintWords
theorem within_eq (a b c : Int) : impl_within.f a b c = some (decide (b ≤ a ∧ a ≤ c)) := by unfold impl_within.f; split <;> simp [*] <;> omega
end Go.Proofs.Ytaecdlhomihejaa.Q
