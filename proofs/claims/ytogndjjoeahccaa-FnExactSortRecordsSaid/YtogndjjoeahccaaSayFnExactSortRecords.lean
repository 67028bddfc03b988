/- The one pure statement of the law FnExactSortRecords: its Lean function answers true. Conditions: each argument is of its kind and within the reach. -/
import Derived.Test.YtogndjjoeahccaaQ9
import Derived.Test.YtogndjjoeahccaaQOpen
namespace Go.Proofs.Ytogndjjoeahccaa.Q
open Go.RowKit Go.Proofs.YtogndjjoeahccaaW.PrintWords
def laws_FnExactSortRecords.Pure : Prop := ∀ (x0 : List (S48)), G8 x0 → ∃ k, laws_FnExactSortRecords.f k x0 = some true
end Go.Proofs.Ytogndjjoeahccaa.Q
