/- The one pure statement of the law FnExactTruncateMem: its Lean function answers true. Conditions: each argument is of its kind and within the reach. -/
import Derived.Test.YtolffokfddjceaaQ11
import Derived.Test.YtolffokfddjceaaQOpen
namespace Go.Proofs.Ytolffokfddjceaa.Q
open Go.RowKit Go.Proofs.YtolffokfddjceaaW.PrintWords
def laws_FnExactTruncateMem.Pure : Prop := ∀ (x0 : List (S23)) (x1 : Int), G7 x0 → G1 x1 → ∃ k, laws_FnExactTruncateMem.f k x0 x1 = some true
end Go.Proofs.Ytolffokfddjceaa.Q
