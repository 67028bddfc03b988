/- The one pure statement of the law FnExactMemBytes: its Lean function answers true. Conditions: each argument is of its kind and within the reach. -/
import Derived.Test.YtolffokfddjceaaQ14
import Derived.Test.YtolffokfddjceaaQOpen
namespace Go.Proofs.Ytolffokfddjceaa.Q
open Go.RowKit Go.Proofs.YtolffokfddjceaaW.PrintWords
def laws_FnExactMemBytes.Pure : Prop := ∀ (x0 : List (S23)), G7 x0 → ∃ k, laws_FnExactMemBytes.f k x0 = some true
end Go.Proofs.Ytolffokfddjceaa.Q
