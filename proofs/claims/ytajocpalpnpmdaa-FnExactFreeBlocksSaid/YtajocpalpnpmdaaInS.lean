/- The specification's range test, as one truth value. No condition. -/
import Derived.Test.YtajocpalpnpmdaaQ1
import Derived.Test.YtajocpalpnpmdaaNum
namespace Go.Proofs.Ytajocpalpnpmdaa.Q
open Go.RowKit Go.Proofs.YtajocpalpnpmdaaW.PrintWords
theorem l00In_eq (a b c : Int) : spec_l00In.f a b c = some (decide (b ≤ a ∧ a ≤ c)) := by unfold spec_l00In.f; split <;> simp [*] <;> omega
end Go.Proofs.Ytajocpalpnpmdaa.Q
