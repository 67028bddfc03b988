/- The two tests of a range, as one truth value. No condition. -/
import Derived.Test.YtannckkmelihdaaQ1
import Derived.Test.YtannckkmelihdaaQ1
import Derived.Test.YtannckkmelihdaaNum
namespace Go.Proofs.Ytannckkmelihdaa.Q
open Go.RowKit Go.Proofs.YtannckkmelihdaaW.PrintWords
theorem l00In_eq (a b c : Int) : spec_l00In.f a b c = some (decide (b ≤ a ∧ a ≤ c)) := by unfold spec_l00In.f; split <;> simp [*] <;> omega
theorem within_eq (a b c : Int) : impl_within.f a b c = some (decide (b ≤ a ∧ a ≤ c)) := by unfold impl_within.f; split <;> simp [*] <;> omega
end Go.Proofs.Ytannckkmelihdaa.Q
