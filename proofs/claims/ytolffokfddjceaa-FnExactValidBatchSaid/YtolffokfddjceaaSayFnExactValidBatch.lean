/- The one pure statement of the law FnExactValidBatch: its Lean function answers true. Conditions: each argument is of its kind and within the reach. -/
import Derived.Test.YtolffokfddjceaaQ8
import Derived.Test.YtolffokfddjceaaQOpen
namespace Go.Proofs.Ytolffokfddjceaa.Q
open Go.RowKit Go.Proofs.YtolffokfddjceaaW.PrintWords
def laws_FnExactValidBatch.Pure : Prop := ∀ (x0 : Int) (x1 : List (S23)), G0 x0 → G7 x1 → ∃ k, laws_FnExactValidBatch.f k x0 x1 = some true
end Go.Proofs.Ytolffokfddjceaa.Q
