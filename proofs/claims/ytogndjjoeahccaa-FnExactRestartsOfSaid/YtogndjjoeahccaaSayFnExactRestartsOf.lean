/- The one pure statement of the law FnExactRestartsOf: its Lean function answers true. Conditions: each argument is of its kind and within the reach. -/
import Derived.Test.YtogndjjoeahccaaQ16
import Derived.Test.YtogndjjoeahccaaQOpen
namespace Go.Proofs.Ytogndjjoeahccaa.Q
open Go.RowKit Go.Proofs.YtogndjjoeahccaaW.PrintWords
def laws_FnExactRestartsOf.Pure : Prop := ∀ (x0 : ByteArray), G0 x0 → ∃ k, laws_FnExactRestartsOf.f k x0 = some true
end Go.Proofs.Ytogndjjoeahccaa.Q
