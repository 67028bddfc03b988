/- The one pure statement of the law FnExactSeekBlock: its Lean function answers true. Conditions: each argument is of its kind and within the reach. -/
import Derived.Test.YtogndjjoeahccaaQ13
import Derived.Test.YtogndjjoeahccaaQOpen
namespace Go.Proofs.Ytogndjjoeahccaa.Q
open Go.RowKit Go.Proofs.YtogndjjoeahccaaW.PrintWords
def laws_FnExactSeekBlock.Pure : Prop := ∀ (x0 : ByteArray) (x1 : ByteArray) (x2 : Int), G0 x0 → G0 x1 → G1 x2 → ∃ k, laws_FnExactSeekBlock.f k x0 x1 x2 = some true
end Go.Proofs.Ytogndjjoeahccaa.Q
