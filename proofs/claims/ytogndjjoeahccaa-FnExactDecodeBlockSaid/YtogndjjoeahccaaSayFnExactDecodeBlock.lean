/- The one pure statement of the law FnExactDecodeBlock: its Lean function answers true. Conditions: each argument is of its kind and within the reach. -/
import Derived.Test.YtogndjjoeahccaaQ15
import Derived.Test.YtogndjjoeahccaaQOpen
namespace Go.Proofs.Ytogndjjoeahccaa.Q
open Go.RowKit Go.Proofs.YtogndjjoeahccaaW.PrintWords
def laws_FnExactDecodeBlock.Pure : Prop := ∀ (x0 : ByteArray), G0 x0 → ∃ k, laws_FnExactDecodeBlock.f k x0 = some true
end Go.Proofs.Ytogndjjoeahccaa.Q
