/- The one pure statement of the law FnExactEncodeBlock: its Lean function answers true. Conditions: each argument is of its kind and within the reach. -/
import Derived.Test.YtogndjjoeahccaaQ10
import Derived.Test.YtogndjjoeahccaaQOpen
namespace Go.Proofs.Ytogndjjoeahccaa.Q
open Go.RowKit Go.Proofs.YtogndjjoeahccaaW.PrintWords
def laws_FnExactEncodeBlock.Pure : Prop := ∀ (x0 : List (S48)), G7 x0 → ∃ k, laws_FnExactEncodeBlock.f k x0 = some true
end Go.Proofs.Ytogndjjoeahccaa.Q
