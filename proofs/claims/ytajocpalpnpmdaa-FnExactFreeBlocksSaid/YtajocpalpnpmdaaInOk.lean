/- The two tests of a range, as one truth value. No condition. -/
import Derived.Test.YtajocpalpnpmdaaQ1
import Derived.Test.YtajocpalpnpmdaaQ5
import Derived.Test.YtajocpalpnpmdaaNum
import Derived.Test.YtajocpalpnpmdaaInS
namespace Go.Proofs.Ytajocpalpnpmdaa.Q
open Go.RowKit Go.Proofs.YtajocpalpnpmdaaW.PrintWords
theorem within_eq (a b c : Int) : impl_within.f a b c = some (decide (b ≤ a ∧ a ≤ c)) := by unfold impl_within.f; split <;> simp [*] <;> omega
end Go.Proofs.Ytajocpalpnpmdaa.Q
