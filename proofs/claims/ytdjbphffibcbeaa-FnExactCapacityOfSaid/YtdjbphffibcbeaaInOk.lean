/- The two tests of a range, as one truth value. No condition. -/
import Derived.Test.YtdjbphffibcbeaaQ4
import Derived.Test.YtdjbphffibcbeaaNum
import Derived.Test.YtdjbphffibcbeaaQ12
namespace Go.Proofs.Ytdjbphffibcbeaa.Q
open Go.RowKit Go.Proofs.YtdjbphffibcbeaaW.PrintWords
theorem l00In_eq (a b c : Int) : spec_l00In.f a b c = some (decide (b ≤ a ∧ a ≤ c)) := by unfold spec_l00In.f; split <;> simp [*] <;> omega
end Go.Proofs.Ytdjbphffibcbeaa.Q
namespace Go.Proofs.Ytdjbphffibcbeaa.Q
open Go.RowKit Go.Proofs.YtdjbphffibcbeaaW.PrintWords
theorem within_eq (a b c : Int) : impl_within.f a b c = some (decide (b ≤ a ∧ a ≤ c)) := by unfold impl_within.f; split <;> simp [*] <;> omega
end Go.Proofs.Ytdjbphffibcbeaa.Q
