/- The specification's range test, as one truth value. No condition. -/
import Derived.Test.YtaecdlhomihejaaQ3
import Derived.Test.YtaecdlhomihejaaNum
namespace Go.Proofs.Ytaecdlhomihejaa.Q
open Go.RowKit Go.Proofs.YtaecdlhomihejaaW.PrintWords
theorem l00In_eq (a b c : Int) : spec_l00In.f a b c = some (decide (b ≤ a ∧ a ≤ c)) := by unfold spec_l00In.f; split <;> simp [*] <;> omega
end Go.Proofs.Ytaecdlhomihejaa.Q
