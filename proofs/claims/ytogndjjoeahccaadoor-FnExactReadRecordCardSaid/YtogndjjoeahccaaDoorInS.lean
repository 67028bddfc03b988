/- The specification's range test, as one truth value. No condition. -/
import Derived.Test.YtogndjjoeahccaaDoorQ2
import Derived.Test.YtogndjjoeahccaaDoorNum
namespace Go.Proofs.YtogndjjoeahccaaDoor.Q
open Go.RowKit Go.Proofs.YtogndjjoeahccaaDoorW.PrintWords
theorem l00In_eq (a b c : Int) : spec_l00In.f a b c = some (decide (b ≤ a ∧ a ≤ c)) := by unfold spec_l00In.f; split <;> simp [*] <;> omega
end Go.Proofs.YtogndjjoeahccaaDoor.Q
